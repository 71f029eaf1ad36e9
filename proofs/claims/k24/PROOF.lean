import PyProof.Rows.All
import Wide.All
import OpenK.AllK
import Wide.FinOn
import HandS.ForMost
import HandS.ForExc
import HandS.Wide
import HandS.TupAny
import HandS.TupMul
import HandS.Style
import HandS.IsInst
import HandS.Conv
import HandS.Flow
import HandS.EndBits
import PySem.Str
import KE.GoesMore
import KE.GoesEnum
import PyProof.Rows.StrMul
import HandS.Strs
import HandS.Zip
import HandS.Head0
import HandS.Head1
import HandS.Head2
import HandS.HeadEnd
import HandS.HeadHook1
import HandS.HeadHook2
import HandS.Defaults
import PySem.Challenge.RW_whatnext_k24_alike_but_for_a_sign
set_option Elab.async false
set_option linter.all false
set_option maxRecDepth 100000
set_option maxHeartbeats 0
section
/-! Pv: plain values, a store, a small language of programs, and what they come to. No model in sight. -/
namespace Wn
open PySem

inductive PV where
  | non
  | bl (b : Bool)
  | int (i : Int)
  | str (x : Str)
  | tup (xs : List PV)
  | loc (n : Nat)
  /-- a list of numbers that nobody writes -/
  | fl (xs : List Int)
  /-- a refusal that was caught: its class, its fields -/
  | exc (C : Str) (fs : List Str) (vs : List PV)
  deriving Inhabited

mutual
def PV.dec : (a b : PV) → Decidable (a = b)
  | .non, .non => Decidable.isTrue rfl
  | .bl a0, .bl b0 =>
    match (inferInstance : Decidable (a0 = b0)) with
    | Decidable.isFalse h => Decidable.isFalse (by intro e; injection e; contradiction)
    | Decidable.isTrue h0 =>
      Decidable.isTrue (by rw [h0])
  | .int a0, .int b0 =>
    match (inferInstance : Decidable (a0 = b0)) with
    | Decidable.isFalse h => Decidable.isFalse (by intro e; injection e; contradiction)
    | Decidable.isTrue h0 =>
      Decidable.isTrue (by rw [h0])
  | .str a0, .str b0 =>
    match (inferInstance : Decidable (a0 = b0)) with
    | Decidable.isFalse h => Decidable.isFalse (by intro e; injection e; contradiction)
    | Decidable.isTrue h0 =>
      Decidable.isTrue (by rw [h0])
  | .tup a0, .tup b0 =>
    match PV.decL a0 b0 with
    | Decidable.isFalse h => Decidable.isFalse (by intro e; injection e; contradiction)
    | Decidable.isTrue h0 =>
      Decidable.isTrue (by rw [h0])
  | .loc a0, .loc b0 =>
    match (inferInstance : Decidable (a0 = b0)) with
    | Decidable.isFalse h => Decidable.isFalse (by intro e; injection e; contradiction)
    | Decidable.isTrue h0 =>
      Decidable.isTrue (by rw [h0])
  | .fl a0, .fl b0 =>
    match (inferInstance : Decidable (a0 = b0)) with
    | Decidable.isFalse h => Decidable.isFalse (by intro e; injection e; contradiction)
    | Decidable.isTrue h0 =>
      Decidable.isTrue (by rw [h0])
  | .exc a0 a1 a2, .exc b0 b1 b2 =>
    match (inferInstance : Decidable (a0 = b0)) with
    | Decidable.isFalse h => Decidable.isFalse (by intro e; injection e; contradiction)
    | Decidable.isTrue h0 =>
      match (inferInstance : Decidable (a1 = b1)) with
      | Decidable.isFalse h => Decidable.isFalse (by intro e; injection e; contradiction)
      | Decidable.isTrue h1 =>
        match PV.decL a2 b2 with
        | Decidable.isFalse h => Decidable.isFalse (by intro e; injection e; contradiction)
        | Decidable.isTrue h2 =>
          Decidable.isTrue (by rw [h0, h1, h2])
  | .non, .bl _ => Decidable.isFalse (by intro e; nomatch e)
  | .non, .int _ => Decidable.isFalse (by intro e; nomatch e)
  | .non, .str _ => Decidable.isFalse (by intro e; nomatch e)
  | .non, .tup _ => Decidable.isFalse (by intro e; nomatch e)
  | .non, .loc _ => Decidable.isFalse (by intro e; nomatch e)
  | .non, .fl _ => Decidable.isFalse (by intro e; nomatch e)
  | .non, .exc _ _ _ => Decidable.isFalse (by intro e; nomatch e)
  | .bl _, .non => Decidable.isFalse (by intro e; nomatch e)
  | .bl _, .int _ => Decidable.isFalse (by intro e; nomatch e)
  | .bl _, .str _ => Decidable.isFalse (by intro e; nomatch e)
  | .bl _, .tup _ => Decidable.isFalse (by intro e; nomatch e)
  | .bl _, .loc _ => Decidable.isFalse (by intro e; nomatch e)
  | .bl _, .fl _ => Decidable.isFalse (by intro e; nomatch e)
  | .bl _, .exc _ _ _ => Decidable.isFalse (by intro e; nomatch e)
  | .int _, .non => Decidable.isFalse (by intro e; nomatch e)
  | .int _, .bl _ => Decidable.isFalse (by intro e; nomatch e)
  | .int _, .str _ => Decidable.isFalse (by intro e; nomatch e)
  | .int _, .tup _ => Decidable.isFalse (by intro e; nomatch e)
  | .int _, .loc _ => Decidable.isFalse (by intro e; nomatch e)
  | .int _, .fl _ => Decidable.isFalse (by intro e; nomatch e)
  | .int _, .exc _ _ _ => Decidable.isFalse (by intro e; nomatch e)
  | .str _, .non => Decidable.isFalse (by intro e; nomatch e)
  | .str _, .bl _ => Decidable.isFalse (by intro e; nomatch e)
  | .str _, .int _ => Decidable.isFalse (by intro e; nomatch e)
  | .str _, .tup _ => Decidable.isFalse (by intro e; nomatch e)
  | .str _, .loc _ => Decidable.isFalse (by intro e; nomatch e)
  | .str _, .fl _ => Decidable.isFalse (by intro e; nomatch e)
  | .str _, .exc _ _ _ => Decidable.isFalse (by intro e; nomatch e)
  | .tup _, .non => Decidable.isFalse (by intro e; nomatch e)
  | .tup _, .bl _ => Decidable.isFalse (by intro e; nomatch e)
  | .tup _, .int _ => Decidable.isFalse (by intro e; nomatch e)
  | .tup _, .str _ => Decidable.isFalse (by intro e; nomatch e)
  | .tup _, .loc _ => Decidable.isFalse (by intro e; nomatch e)
  | .tup _, .fl _ => Decidable.isFalse (by intro e; nomatch e)
  | .tup _, .exc _ _ _ => Decidable.isFalse (by intro e; nomatch e)
  | .loc _, .non => Decidable.isFalse (by intro e; nomatch e)
  | .loc _, .bl _ => Decidable.isFalse (by intro e; nomatch e)
  | .loc _, .int _ => Decidable.isFalse (by intro e; nomatch e)
  | .loc _, .str _ => Decidable.isFalse (by intro e; nomatch e)
  | .loc _, .tup _ => Decidable.isFalse (by intro e; nomatch e)
  | .loc _, .fl _ => Decidable.isFalse (by intro e; nomatch e)
  | .loc _, .exc _ _ _ => Decidable.isFalse (by intro e; nomatch e)
  | .fl _, .non => Decidable.isFalse (by intro e; nomatch e)
  | .fl _, .bl _ => Decidable.isFalse (by intro e; nomatch e)
  | .fl _, .int _ => Decidable.isFalse (by intro e; nomatch e)
  | .fl _, .str _ => Decidable.isFalse (by intro e; nomatch e)
  | .fl _, .tup _ => Decidable.isFalse (by intro e; nomatch e)
  | .fl _, .loc _ => Decidable.isFalse (by intro e; nomatch e)
  | .fl _, .exc _ _ _ => Decidable.isFalse (by intro e; nomatch e)
  | .exc _ _ _, .non => Decidable.isFalse (by intro e; nomatch e)
  | .exc _ _ _, .bl _ => Decidable.isFalse (by intro e; nomatch e)
  | .exc _ _ _, .int _ => Decidable.isFalse (by intro e; nomatch e)
  | .exc _ _ _, .str _ => Decidable.isFalse (by intro e; nomatch e)
  | .exc _ _ _, .tup _ => Decidable.isFalse (by intro e; nomatch e)
  | .exc _ _ _, .loc _ => Decidable.isFalse (by intro e; nomatch e)
  | .exc _ _ _, .fl _ => Decidable.isFalse (by intro e; nomatch e)
def PV.decL : (a b : List PV) → Decidable (a = b)
  | [], [] => Decidable.isTrue rfl
  | a :: as, b :: bs => match PV.dec a b with
    | Decidable.isFalse h => Decidable.isFalse (by intro e; injection e; contradiction)
    | Decidable.isTrue h => match PV.decL as bs with
      | Decidable.isTrue g => Decidable.isTrue (by rw [h, g])
      | Decidable.isFalse g => Decidable.isFalse (by intro e; injection e; contradiction)
  | [], _ :: _ => Decidable.isFalse (by intro e; nomatch e)
  | _ :: _, [] => Decidable.isFalse (by intro e; nomatch e)
end
instance : DecidableEq PV := PV.dec


/-- what may change: a list, a dict, an instance -/
inductive MO where
  | lst (xs : List PV)
  | dic (kvs : List (PV × PV))
  | ins (C : Str) (fs : List (Str × PV))
  deriving DecidableEq, Inhabited

abbrev Store := List MO
abbrev Env := List (Option PV)

structure Exn where
  cls : Str
  fs : List Str
  vs : List PV

inductive Res (α : Type) where
  | ok (a : α) (M : Store)
  | err (x : Exn) (M : Store)
  | bad

def Res.bind {α β : Type} : Res α → (α → Store → Res β) → Res β
  | .ok a M, f => f a M
  | .err x M, _ => .err x M
  | .bad, _ => .bad
@[simp] theorem Res.bind_ok {α β : Type} (a : α) (M : Store) (f : α → Store → Res β) : (Res.ok a M).bind f = f a M := rfl
@[simp] theorem Res.bind_err {α β : Type} (x : Exn) (M : Store) (f : α → Store → Res β) : (Res.err x M : Res α).bind f = .err x M := rfl
@[simp] theorem Res.bind_bad {α β : Type} (f : α → Store → Res β) : (Res.bad : Res α).bind f = .bad := rfl

/-! ### the language -/
inductive BOp | add | sub | mul | fdiv | mod | pow
  deriving DecidableEq
inductive COp | eq | ne | lt | le | gt | ge | isin | notin | is_ | isnot
  deriving DecidableEq
/-- built-in functions -/
inductive Bi | len | list | tuple | dict | set | int | max | min | sum | all | any | sorted | str | repr | lenset | sortset | zipl | zipd | maxl | minl
  deriving DecidableEq
/-- methods of built-in types -/
inductive Bm | append | extend | pop | popAt | clear | count | index | insert | reverse | get | dpop | join | split | partition
  deriving DecidableEq
inductive Ty | str | int | bool | tuple | list | dict | cls (C : Str)
  deriving DecidableEq
/-- a target of a loop -/
inductive Tg | nm (i : Nat) | tup (is : List Nat)
  deriving DecidableEq

mutual
inductive Ex
  | var (i : Nat)
  | int (i : Int)
  | str (x : Str)
  | bl (b : Bool)
  | non
  | glo (x : Str)
  | bin (op : BOp) (a b : Ex)
  | neg (a : Ex)
  | cmp (op : COp) (a b : Ex)
  | chain (o p : COp) (a b c : Ex)
  | and_ (a b : Ex)
  | or_ (a b : Ex)
  | not_ (a : Ex)
  | ite (c a b : Ex)
  | tup (es : Exs)
  | lst (es : Exs)
  | dic (kvs : Exs)
  | idx (a b : Ex)
  | slice (a : Ex) (lo hi : Ox)
  | rev (a : Ex)
  | fld (a : Ex) (f : Str)
  | call (f : Str) (args : Exs)
  | mk (C : Str) (args : Exs)
  | meth (o : Ex) (m : Str) (args : Exs)
  | bi (f : Bi) (args : Exs)
  | bm (m : Bm) (o : Ex) (args : Exs)
  | isi (a : Ex) (t : Ty)
  | lc (elt : Ex) (g : Tg) (it : Ix) (cond : Ox)
  /-- as e; who reads knows that nobody else does -/
  | mov (e : Ex)
inductive Exs
  | nil
  | cons (e : Ex) (es : Exs)
inductive Ox
  | none
  | some (e : Ex)
/-- what is walked -/
inductive Ix
  | of (e : Ex)
  | rng1 (a : Ex)
  | rng2 (a b : Ex)
  | rng3 (a b d : Ex)
  | enum (e : Ex)
  | zip (a b : Ex)
end

mutual
inductive S
  | asg (i : Nat) (e : Ex)
  | unp (is : List Nat) (e : Ex)
  | seti (o i e : Ex)
  | setf (o : Ex) (f : Str) (e : Ex)
  /-- what is never come to -/
  | nev
  | ex (e : Ex)
  | ret (e : Ex)
  | retN
  | pass
  | brk
  | cont
  | ifs (c : Ex) (a b : Ss)
  | whl (c : Ex) (b : Ss)
  | for_ (g : Tg) (it : Ix) (b : Ss)
  /-- these names are not looked at any more -/
  | kill (is : List Nat)
  /-- raise C(..) -/
  | rai (C : Str) (es : Exs)
  /-- try: x = e, or e alone; then who catches it -/
  | tr (i : Option Nat) (e : Ex) (hs : Hs)
inductive Ss
  | nil
  | cons (s : S) (ss : Ss)
inductive Hs
  | nil
  | cons (C : Str) (i : Option Nat) (b : Ss) (hs : Hs)
end

/-! ### operations on values -/
def big : Nat := 16777216
/-- a place by an index of any sign -/
def ixOf (n : Nat) (i : Int) : Option Nat := if 0 ≤ i then (if i < n then some i.toNat else none) else if -(n : Int) ≤ i then some (i + n).toNat else none
/-- a slice's bound -/
def cutIx (n d : Nat) : Option Int → Nat
  | none => d
  | some v => if v < 0 then (v + (n : Int)).toNat else min v.toNat n
def cut {α : Type} (xs : List α) (lo hi : Option Int) : List α := (xs.drop (cutIx xs.length 0 lo)).take (cutIx xs.length xs.length hi - cutIx xs.length 0 lo)

def mulOk (i j : Int) : Bool := decide (i.natAbs < 2 ^ 64) || decide (j.natAbs < 2 ^ 64)

def doBin (M : Store) : BOp → PV → PV → Res PV
  | .add, .int a, .int b => .ok (.int (a + b)) M
  | .add, .str a, .str b => if a.length + b.length ≤ big then .ok (.str (a ++ b)) M else .bad
  | .add, .tup a, .tup b => if a.length + b.length ≤ big then .ok (.tup (a ++ b)) M else .bad
  | .add, .loc a, .loc b => match M[a]?, M[b]? with
    | some (.lst xs), some (.lst ys) => if xs.length + ys.length ≤ big then .ok (.loc M.length) (M ++ [.lst (xs ++ ys)]) else .bad
    | _, _ => .bad
  | .sub, .int a, .int b => .ok (.int (a - b)) M
  | .mul, .int a, .int b => if mulOk a b then .ok (.int (a * b)) M else .bad
  | .mul, .loc a, .int k => match M[a]? with
    | some (.lst xs) => if k < 1000 ∧ -1000 < k ∧ xs.length ≤ 1000 then .ok (.loc M.length) (M ++ [.lst (List.replicate k.toNat xs).flatten]) else .bad
    | _ => .bad
  | .mul, .str x, .int k => if k < 1000 ∧ -1000 < k ∧ x.length ≤ 1000 then .ok (.str ⟨(List.replicate k.toNat x.cps.toList).flatten.toArray⟩) M else .bad
  | .fdiv, .int a, .int b => if 0 < b ∧ b ≤ 1000000000000000000000000000000000000000000000000000000000000 then .ok (.int (a / b)) M else .bad
  | .mod, .int a, .int b => if 0 < b then .ok (.int (a % b)) M else .bad
  | .pow, .int a, .int b => if 0 ≤ b ∧ b ≤ 1000000 ∧ a.natAbs < 2 ^ 64 then .ok (.int (a ^ b.toNat)) M else .bad
  | _, _, _ => .bad

/-- what a value tells, with what lies within: truths are numbers -/
inductive DV where
  | non
  | int (i : Int)
  | str (x : Str)
  | tup (xs : List DV)
  | lst (xs : List DV)
  deriving Inhabited
mutual
def DV.dec : (a b : DV) → Decidable (a = b)
  | .non, .non => Decidable.isTrue rfl
  | .int a, .int b => if h : a = b then Decidable.isTrue (by rw [h]) else Decidable.isFalse (by intro e; injection e; contradiction)
  | .str a, .str b => if h : a = b then Decidable.isTrue (by rw [h]) else Decidable.isFalse (by intro e; injection e; contradiction)
  | .tup a, .tup b => match DV.decL a b with
    | Decidable.isTrue h => Decidable.isTrue (by rw [h])
    | Decidable.isFalse h => Decidable.isFalse (by intro e; injection e; contradiction)
  | .lst a, .lst b => match DV.decL a b with
    | Decidable.isTrue h => Decidable.isTrue (by rw [h])
    | Decidable.isFalse h => Decidable.isFalse (by intro e; injection e; contradiction)
  | .non, .int _ | .non, .str _ | .non, .tup _ | .non, .lst _ => Decidable.isFalse (by intro e; nomatch e)
  | .int _, .non | .int _, .str _ | .int _, .tup _ | .int _, .lst _ => Decidable.isFalse (by intro e; nomatch e)
  | .str _, .non | .str _, .int _ | .str _, .tup _ | .str _, .lst _ => Decidable.isFalse (by intro e; nomatch e)
  | .tup _, .non | .tup _, .int _ | .tup _, .str _ | .tup _, .lst _ => Decidable.isFalse (by intro e; nomatch e)
  | .lst _, .non | .lst _, .int _ | .lst _, .str _ | .lst _, .tup _ => Decidable.isFalse (by intro e; nomatch e)
def DV.decL : (a b : List DV) → Decidable (a = b)
  | [], [] => Decidable.isTrue rfl
  | a :: as, b :: bs => match DV.dec a b, DV.decL as bs with
    | Decidable.isTrue h, Decidable.isTrue g => Decidable.isTrue (by rw [h, g])
    | Decidable.isFalse h, _ => Decidable.isFalse (by intro e; injection e; contradiction)
    | _, Decidable.isFalse g => Decidable.isFalse (by intro e; injection e; contradiction)
  | [], _ :: _ => Decidable.isFalse (by intro e; nomatch e)
  | _ :: _, [] => Decidable.isFalse (by intro e; nomatch e)
end
instance : DecidableEq DV := DV.dec
mutual
def DV.deep : DV → Nat
  | .tup xs => DV.deepL xs + 1
  | .lst xs => DV.deepL xs + 1
  | _ => 0
def DV.deepL : List DV → Nat
  | [] => 0
  | x :: xs => max x.deep (DV.deepL xs)
end
/-- read, f telling of places of the store -/
def rdW (f : Nat → Option DV) : PV → Option DV
  | .non => some .non
  | .bl b => some (.int (if b then 1 else 0))
  | .int i => some (.int i)
  | .str x => some (.str x)
  | .tup xs => (rdL f xs).map .tup
  | .loc n => f n
  | .fl _ => none
  | .exc _ _ _ => none
where rdL (f : Nat → Option DV) : List PV → Option (List DV)
  | [] => some []
  | x :: xs => (rdW f x).bind fun d => (rdL f xs).map fun ds => d :: ds
def rdM (M : Store) : Nat → PV → Option DV
  | 0 => rdW fun _ => none
  | k + 1 => rdW fun n => match M[n]? with
    | some (.lst xs) => (xs.mapM (rdM M k)).map .lst
    | _ => none
/-- == -/
def doEq (M : Store) (a b : PV) : Option Bool :=
  match rdM M 3 a, rdM M 3 b with
  | some d, some e => if min d.deep e.deep ≤ 190 then some (decide (d = e)) else none
  | _, _ => none
def items (M : Store) : PV → Option (List PV)
  | .tup xs => some xs
  | .loc n => match M[n]? with
    | some (.lst xs) => some xs
    | _ => none
  | _ => none
/-- a text's signs -/
def signs (x : Str) : List PV := x.cps.toList.map fun c => .str ⟨#[c]⟩
def anyEq (M : Store) (x : PV) : List PV → Option Bool
  | [] => some false
  | y :: ys => match doEq M y x, anyEq M x ys with
    | some b, some c => some (b || c)
    | _, _ => none
def putD (k v : PV) (kvs : List (PV × PV)) : List (PV × PV) :=
  if (kvs.any fun p => decide (p.1 = k)) = true then kvs.map (fun p => if p.1 = k then (p.1, v) else p) else kvs ++ [(k, v)]
/-- what may be a key here: a number, a text -/
def isKey : PV → Bool
  | .int _ => true
  | .str _ => true
  | _ => false
/-- the texts that hold one another -/
def hasSign (x y : Str) : Option Bool := if x.cps.size = 1 then some (decide (x.cps.toList.getD 0 0 ∈ y.cps.toList)) else none

def doIn (M : Store) (x : PV) : PV → Option Bool
  | .str y => match x with
    | .str z => hasSign z y
    | _ => none
  | .tup ys => anyEq M x ys
  | .loc n => match M[n]? with
    | some (.lst ys) => anyEq M x ys
    | some (.dic kvs) => if isKey x then some (kvs.any fun p => decide (p.1 = x)) else none
    | _ => none
  | _ => none
def doIs : PV → PV → Option Bool
  | a, .non => some (decide (a = .non))
  | .bl a, .bl b => some (decide (a = b))
  | _, _ => none
def doCmp (M : Store) : COp → PV → PV → Option Bool
  | .eq, a, b => doEq M a b
  | .ne, a, b => (doEq M a b).map (!·)
  | .lt, .int a, .int b => some (decide (a < b))
  | .le, .int a, .int b => some (decide (a ≤ b))
  | .gt, .int a, .int b => some (decide (b < a))
  | .ge, .int a, .int b => some (decide (b ≤ a))
  | .isin, a, b => doIn M a b
  | .notin, a, b => (doIn M a b).map (!·)
  | .is_, a, b => doIs a b
  | .isnot, a, b => (doIs a b).map (!·)
  | _, _, _ => none
/-- truth -/
def truth (M : Store) : PV → Option Bool
  | .non => some false
  | .bl b => some b
  | .int i => some (i != 0)
  | .str x => if x.length ≤ big then some (x.length != 0) else none
  | .tup xs => some (!xs.isEmpty)
  | .loc n => match M[n]? with
    | some (.lst xs) => some (!xs.isEmpty)
    | some (.dic kvs) => some (!kvs.isEmpty)
    | _ => none
  | .fl _ => none
  | .exc _ _ _ => none
def lift {α : Type} (M : Store) : Option α → Res α
  | some a => .ok a M
  | none => .bad
def liftB (M : Store) : Option Bool → Res PV
  | some b => .ok (.bl b) M
  | none => .bad
@[simp] theorem lift_some {α : Type} (M : Store) (a : α) : lift M (some a) = .ok a M := rfl
@[simp] theorem liftB_some (M : Store) (b : Bool) : liftB M (some b) = .ok (.bl b) M := rfl

def doIdx (M : Store) (a b : PV) : Option PV := match a, b with
  | .fl xs, .int i => (ixOf xs.length i).bind fun j => (xs[j]?).map .int
  | .tup xs, .int i => (ixOf xs.length i).bind fun j => xs[j]?
  | .str x, .int i => if x.length ≤ big then (ixOf x.cps.toList.length i).bind fun j => (x.cps.toList[j]?).map fun c => .str ⟨#[c]⟩ else none
  | .loc n, k => match M[n]? with
    | some (.lst xs) => (match k with
      | .int i => (ixOf xs.length i).bind fun j => xs[j]?
      | _ => none)
    | some (.dic kvs) => if isKey k then kvs.lookup k else none
    | _ => none
  | _, _ => none
def doSlice (M : Store) (a : PV) (lo hi : Option Int) : Res PV := match a with
  | .tup xs => .ok (.tup (cut xs lo hi)) M
  | .str x => if x.length ≤ big then .ok (.str ⟨(cut x.cps.toList lo hi).toArray⟩) M else .bad
  | .loc n => match M[n]? with
    | some (.lst xs) => .ok (.loc M.length) (M ++ [.lst (cut xs lo hi)])
    | _ => .bad
  | _ => .bad
def isTy (M : Store) : PV → Ty → Option Bool
  | .non, _ => some false
  | .bl _, .int => some true
  | .bl _, .bool => some true
  | .bl _, _ => some false
  | .int _, .int => some true
  | .int _, _ => some false
  | .str _, .str => some true
  | .str _, _ => some false
  | .tup _, .tuple => some true
  | .tup _, _ => some false
  | .loc n, t => match M[n]? with
    | some (.lst _) => some (decide (t = .list))
    | some (.dic _) => some (decide (t = .dict))
    | _ => none
  | .fl _, _ => none
  | .exc _ _ _, _ => none

def bools : List PV → Option (List Bool)
  | [] => some []
  | .bl b :: r => (bools r).map fun bs => b :: bs
  | _ => none
def intsOf : List PV → Option (List Int)
  | [] => some []
  | .int i :: r => (intsOf r).map fun is => i :: is
  | _ => none
/-- pairs, as a dict takes them -/
def pairs : List PV → Option (List (PV × PV))
  | [] => some []
  | .tup [k, v] :: r => if isKey k then (pairs r).map fun ps => (k, v) :: ps else none
  | _ => none
/-- key, value, key, value .. -/
def flatPairs : List PV → Option (List (PV × PV))
  | [] => some []
  | k :: v :: r => if isKey k then (flatPairs r).map fun ps => (k, v) :: ps else none
  | _ => none
def strsOf : List PV → Option (List Str)
  | [] => some []
  | .str x :: r => (strsOf r).map fun xs => x :: xs
  | _ => none
def leStr (a b : Str) : Bool := decide (a.cps.toList ≤ b.cps.toList)
def insStr (x : Str) : List Str → List Str
  | [] => [x]
  | y :: ys => if leStr x y then x :: y :: ys else y :: insStr x ys
def sortStr : List Str → List Str
  | [] => []
  | x :: xs => insStr x (sortStr xs)
def zipP : List PV → List PV → List PV
  | x :: xs, y :: ys => .tup [x, y] :: zipP xs ys
  | _, _ => []
def mergeD (acc : List (PV × PV)) : List (PV × PV) → List (PV × PV)
  | [] => acc
  | (k, v) :: r => mergeD (putD k v acc) r

/-- how many of the rest are met for the first time -/
def dcount : List Str → List Str → Nat
  | _, [] => 0
  | seen, x :: xs => (if seen.any (· == x) then 0 else 1) + dcount (seen ++ [x]) xs
def doBi (M : Store) (f : Bi) (args : List PV) : Res PV := match f, args with
  | .len, [.str x] => if x.length ≤ big then .ok (.int x.length) M else .bad
  | .len, [.tup xs] => .ok (.int xs.length) M
  | .len, [.fl xs] => .ok (.int xs.length) M
  | .len, [.loc n] => (match M[n]? with
    | some (.lst xs) => .ok (.int xs.length) M
    | some (.dic kvs) => .ok (.int kvs.length) M
    | _ => .bad)
  | .list, [x] => (match items M x with
    | some xs => .ok (.loc M.length) (M ++ [.lst xs])
    | none => .bad)
  | .tuple, [x] => (match items M x with
    | some xs => .ok (.tup xs) M
    | none => .bad)
  | .int, [.int i] => .ok (.int i) M
  | .int, [.bl b] => .ok (.int (if b then 1 else 0)) M
  | .max, [.int i, .int j] => .ok (.int (if j > i then j else i)) M
  | .min, [.int i, .int j] => .ok (.int (if j < i then j else i)) M
  | .all, [.loc n] => (match M[n]? with
    | some (.lst xs) => (match bools xs with
      | some bs => .ok (.bl (bs.all id)) M
      | none => .bad)
    | _ => .bad)
  | .any, [.loc n] => (match M[n]? with
    | some (.lst xs) => (match bools xs with
      | some bs => .ok (.bl (bs.any id)) M
      | none => .bad)
    | _ => .bad)
  | .sum, [.loc n] => (match M[n]? with
    | some (.lst xs) => (match intsOf xs with
      | some is => .ok (.int is.sum) M
      | none => .bad)
    | _ => .bad)
  | .dict, [.loc n] => (match M[n]? with
    | some (.lst xs) => (match pairs xs with
      | some ps => .ok (.loc M.length) (M ++ [.dic (mergeD [] ps)])
      | none => .bad)
    | some (.dic kvs) => .ok (.loc M.length) (M ++ [.dic kvs])
    | _ => .bad)
  | .maxl, [.loc n] => (match M[n]? with
    | some (.lst xs) => (match intsOf xs with
      | some (i :: is) => .ok (.int (is.foldl (fun a b => if b > a then b else a) i)) M
      | _ => .bad)
    | _ => .bad)
  | .minl, [.loc n] => (match M[n]? with
    | some (.lst xs) => (match intsOf xs with
      | some (i :: is) => .ok (.int (is.foldl (fun a b => if b < a then b else a) i)) M
      | _ => .bad)
    | _ => .bad)
  | .lenset, [.loc n] => (match M[n]? with
    | some (.lst ys) => (match strsOf ys with
      | some xs => if xs.length ≤ 1000 then .ok (.int (dcount [] xs : Nat)) M else .bad
      | none => .bad)
    | _ => .bad)
  | .sortset, [x] => (match (items M x).bind strsOf with
    | some xs => .ok (.loc M.length) (M ++ [.lst ((sortStr xs.eraseDups).map .str)])
    | none => .bad)
  | .sorted, [.loc n] => (match M[n]? with
    | some (.lst xs) => (match strsOf xs with
      | some xs => .ok (.loc M.length) (M ++ [.lst ((sortStr xs).map .str)])
      | none => .bad)
    | some (.dic kvs) => (match strsOf (kvs.map (·.1)) with
      | some xs => .ok (.loc M.length) (M ++ [.lst ((sortStr xs).map .str)])
      | none => .bad)
    | _ => .bad)
  | .zipl, [x, y] => (match items M x, items M y with
    | some xs, some ys => .ok (.loc M.length) (M ++ [.lst (zipP xs ys)])
    | _, _ => .bad)
  | .zipd, [x, y] => (match items M x, items M y with
    | some xs, some ys => (match pairs (zipP xs ys) with
      | some ps => .ok (.loc M.length) (M ++ [.dic (mergeD [] ps)])
      | none => .bad)
    | _, _ => .bad)
  | _, _ => .bad

def countEq (M : Store) (v : PV) : List PV → Option Nat
  | [] => some 0
  | y :: ys => match doEq M y v, countEq M v ys with
    | some b, some k => some (if b then k + 1 else k)
    | _, _ => none
def indexEq (M : Store) (v : PV) : List PV → Option Nat
  | [] => none
  | y :: ys => match doEq M y v with
    | some true => some 0
    | some false => (indexEq M v ys).map (· + 1)
    | none => none
def doBm (M : Store) (m : Bm) (o : PV) (args : List PV) : Res PV := match o with
  | .loc n => (match M[n]? with
    | some (.lst xs) => (match m, args with
      | .append, [v] => if xs.length < big then .ok .non (M.set n (.lst (xs ++ [v]))) else .bad
      | .extend, [.loc k] => (match M[k]? with
        | some (.lst ys) => if xs.length + ys.length ≤ big then .ok .non (M.set n (.lst (xs ++ ys))) else .bad
        | _ => .bad)
      | .pop, [] => (match xs[xs.length - 1]? with
        | some y => .ok y (M.set n (.lst xs.dropLast))
        | none => .bad)
      | .clear, [] => .ok .non (M.set n (.lst []))
      | .reverse, [] => .ok .non (M.set n (.lst xs.reverse))
      | .popAt, [.int i] => (match ixOf xs.length i with
        | some k => (match xs[k]? with
          | some y => .ok y (M.set n (.lst (xs.eraseIdx k)))
          | none => .bad)
        | none => .bad)
      | .insert, [.int i, v] => if xs.length < big ∧ 0 ≤ i ∧ i ≤ xs.length then .ok .non (M.set n (.lst (xs.take i.toNat ++ v :: xs.drop i.toNat))) else .bad
      | .count, [v] => (match countEq M v xs with
        | some k => .ok (.int (k : Nat)) M
        | none => .bad)
      | .index, [v] => (match indexEq M v xs with
        | some k => .ok (.int (k : Nat)) M
        | none => .bad)
      | _, _ => .bad)
    | some (.dic kvs) => (match m, args with
      | .get, [k, d] => if isKey k then .ok ((kvs.lookup k).getD d) M else .bad
      | .dpop, [k, d] => if isKey k then .ok ((kvs.lookup k).getD d) (M.set n (.dic (kvs.filter fun p => !decide (p.1 = k)))) else .bad
      | _, _ => .bad)
    | _ => .bad)
  | _ => .bad

/-- the receiver is of the method's kind -/
def bmOk (M : Store) (m : Bm) (o : PV) : Bool := match o with
  | .loc n => (match M[n]? with
    | some (.lst _) => m != .get && m != .dpop
    | some (.dic _) => m == .get || m == .dpop
    | _ => false)
  | _ => false

/-! ### what an expression comes to -/
structure Ctx where
  call : Str → List PV → Store → Res PV
  make : Str → List PV → Store → Res PV
  meth : Str → Str → List PV → Store → Res PV
  glo : Str → Option PV
  wf : Nat
  /-- a class is another, or under it -/
  sub : Str → Str → Bool := fun _ _ => false
  /-- classes of refusals, and the field that their making sets -/
  exc : Str → Option (Option Str) := fun _ => none

def setTg (g : Tg) (v : PV) (E : Env) : Option Env := match g with
  | .nm i => some (E.set i (some v))
  | .tup is => match v with
    | .tup xs => setAll is xs E
    | _ => none
where setAll : List Nat → List PV → Env → Option Env
  | [], [], E => some E
  | i :: is, x :: xs, E => setAll is xs (E.set i (some x))
  | _, _, _ => none

/-- the list at n stands as it stood -/
abbrev Watch := Option (Nat × List PV)
def Watch.ok (M : Store) : Watch → Bool
  | none => true
  | some (n, xs) => decide (M[n]? = some (.lst xs))

def rangeOf (lo hi : Int) : List PV := (List.range (hi - lo).toNat).map fun (k : Nat) => .int (lo + (k : Int))
/-- so that what is not known is not counted down: a number's size only -/
def inBound : Int → Bool
  | .ofNat n => decide (n < 4611686018427387904)
  | .negSucc n => decide (n < 4611686018427387904)
theorem inBound_iff (i : Int) : inBound i = true ↔ -(2 ^ 62) ≤ i ∧ i < 2 ^ 62 := by
  cases i with
  | ofNat n => simp only [inBound, decide_eq_true_eq]; constructor <;> (intro h; simp at *; omega)
  | negSucc n => simp only [inBound, decide_eq_true_eq]; constructor <;> (intro h; omega)
def enumFrom (k : Nat) : List PV → List PV
  | [] => []
  | x :: xs => .tup [.int (k : Int), x] :: enumFrom (k + 1) xs
def walked (M : Store) : PV → Option (List PV × Watch)
  | .tup xs => some (xs, none)
  | .str x => some (signs x, none)
  | .loc n => match M[n]? with
    | some (.lst xs) => some (xs, some (n, xs))
    | _ => none
  | _ => none
def walkedE (M : Store) : PV → Option (List PV × Watch)
  | .tup xs => some (enumFrom 0 xs, none)
  | .loc n => match M[n]? with
    | some (.lst xs) => some (enumFrom 0 xs, some (n, xs))
    | _ => none
  | _ => none

def rangeC (lo : Int) (c : Int) (n : Nat) : List PV := (List.range n).map fun (k : Nat) => .int (lo + (k : Int) * c)
/-- of which class -/
def isTyC (c : Ctx) (M : Store) (x : PV) : Ty → Option Bool
  | .cls D => (match x with
    | .exc C _ _ => some (c.sub C D)
    | .loc n => (match M[n]? with
      | some (.ins C _) => some (c.sub C D)
      | some _ => some false
      | none => none)
    | .fl _ => none
    | _ => some false)
  | t => isTy M x t
def putF (f : Str) (v : PV) (fs : List (Str × PV)) : List (Str × PV) :=
  if (fs.any fun p => decide (p.1 = f)) = true then fs.map (fun p => if p.1 = f then (p.1, v) else p) else fs ++ [(f, v)]
/-- the turns of a list comprehension -/
def lcGo (w : Watch) (step : PV → Store → Res (Option PV)) : List PV → List PV → Store → Res (List PV)
  | [], acc, M => if w.ok M then .ok acc M else .bad
  | x :: xs, acc, M => if w.ok M && decide (acc.length < big) then (match step x M with
      | .ok (some y) M1 => lcGo w step xs (acc ++ [y]) M1
      | .ok none M1 => lcGo w step xs acc M1
      | _ => .bad) else .bad

mutual
def evE (c : Ctx) : Ex → Env → Store → Res PV
  | .var i, E, M => match E[i]? with
    | some (some v) => .ok v M
    | _ => .bad
  | .int i, _, M => .ok (.int i) M
  | .str x, _, M => .ok (.str x) M
  | .bl b, _, M => .ok (.bl b) M
  | .non, _, M => .ok .non M
  | .glo x, _, M => match c.glo x with
    | some v => .ok v M
    | none => .bad
  | .bin op a b, E, M => (evE c a E M).bind fun x M1 => (evE c b E M1).bind fun y M2 => doBin M2 op x y
  | .neg a, E, M => (evE c a E M).bind fun x M1 => match x with
    | .int i => .ok (.int (-i)) M1
    | _ => .bad
  | .cmp op a b, E, M => (evE c a E M).bind fun x M1 => (evE c b E M1).bind fun y M2 => liftB M2 (doCmp M2 op x y)
  | .chain o p a b d, E, M => (evE c a E M).bind fun x M1 => (evE c b E M1).bind fun y M2 => (lift M2 (doCmp M2 o x y)).bind fun k M3 =>
      if k = true then (evE c d E M3).bind fun z M4 => liftB M4 (doCmp M4 p y z) else .ok (.bl false) M3
  | .and_ a b, E, M => (evE c a E M).bind fun x M1 => match x with
    | .bl true => evE c b E M1
    | .bl false => .ok (.bl false) M1
    | _ => .bad
  | .or_ a b, E, M => (evE c a E M).bind fun x M1 => match x with
    | .bl true => .ok (.bl true) M1
    | .bl false => evE c b E M1
    | _ => .bad
  | .not_ a, E, M => (evE c a E M).bind fun x M1 => match x with
    | .bl b => .ok (.bl (!b)) M1
    | _ => .bad
  | .ite t a b, E, M => (evT c t E M).bind fun k M1 => if k = true then evE c a E M1 else evE c b E M1
  | .tup es, E, M => (evEs c es E M).bind fun xs M1 => if xs.length ≤ big then .ok (.tup xs) M1 else .bad
  | .lst es, E, M => (evEs c es E M).bind fun xs M1 => if xs.length ≤ big then .ok (.loc M1.length) (M1 ++ [.lst xs]) else .bad
  | .dic es, E, M => match evEs c es E M with
    | .ok xs M1 => (match flatPairs xs with
      | some ps => if ps.length ≤ 15 then .ok (.loc M1.length) (M1 ++ [.dic (mergeD [] ps)]) else .bad
      | none => .bad)
    | _ => .bad
  | .idx a b, E, M => (evE c a E M).bind fun x M1 => (evE c b E M1).bind fun y M2 => lift M2 (doIdx M2 x y)
  | .slice a lo hi, E, M => (evE c a E M).bind fun x M1 => (evO c lo E M1).bind fun l M2 => (evO c hi E M2).bind fun h M3 => doSlice M3 x l h
  | .rev a, E, M => (evE c a E M).bind fun x M1 => match x with
    | .tup xs => .ok (.tup xs.reverse) M1
    | .loc n => (match M1[n]? with
      | some (.lst xs) => .ok (.loc M1.length) (M1 ++ [.lst xs.reverse])
      | _ => .bad)
    | _ => .bad
  | .fld a f, E, M => (evE c a E M).bind fun x M1 => match x with
    | .loc n => (match M1[n]? with
      | some (.ins _ fs) => lift M1 (fs.lookup f)
      | _ => .bad)
    | .exc _ fs vs => lift M1 ((fs.zip vs).lookup f)
    | _ => .bad
  | .call f es, E, M => (evEs c es E M).bind fun xs M1 => c.call f xs M1
  | .mk C es, E, M => (evEs c es E M).bind fun xs M1 => c.make C xs M1
  | .meth o m es, E, M => (evE c o E M).bind fun x M1 => match x with
    | .loc n => (match M1[n]? with
      | some (.ins C fs) => (match fs.lookup m with
        | none => (evEs c es E M1).bind fun xs M2 => c.meth C m (.loc n :: xs) M2
        | some _ => .bad)
      | _ => .bad)
    | _ => .bad
  | .bi f es, E, M => (evEs c es E M).bind fun xs M1 => doBi M1 f xs
  | .bm m o es, E, M => (evE c o E M).bind fun x M1 => if bmOk M1 m x then (evEs c es E M1).bind fun xs M2 => doBm M2 m x xs else .bad
  | .isi a t, E, M => (evE c a E M).bind fun x M1 => liftB M1 (isTyC c M1 x t)
  | .lc elt g it cond, E, M => (evI c it E M).bind fun w M1 => (lcGo w.2 (fun x M => match setTg g x E with
      | some E1 => (evC c cond E1 M).bind fun k M2 => if k = true then (evE c elt E1 M2).bind fun y M3 => .ok (some y) M3 else .ok none M2
      | none => .bad) w.1 [] M1).bind fun ys M2 => .ok (.loc M2.length) (M2 ++ [.lst ys])
  | .mov e, E, M => evE c e E M
/-- as a test -/
def evT (c : Ctx) : Ex → Env → Store → Res Bool
  | .and_ a b, E, M => (evT c a E M).bind fun k M1 => if k = true then evT c b E M1 else .ok false M1
  | .or_ a b, E, M => (evT c a E M).bind fun k M1 => if k = true then .ok true M1 else evT c b E M1
  | .not_ a, E, M => (evT c a E M).bind fun k M1 => .ok (!k) M1
  | .ite t a b, E, M => .bad
  | .var i, E, M => match E[i]? with
    | some (some v) => lift M (truth M v)
    | _ => .bad
  | .cmp op a b, E, M => (evE c a E M).bind fun x M1 => (evE c b E M1).bind fun y M2 => lift M2 (doCmp M2 op x y)
  | .chain o p a b d, E, M => (evE c a E M).bind fun x M1 => (evE c b E M1).bind fun y M2 => (lift M2 (doCmp M2 o x y)).bind fun k M3 =>
      if k = true then (evE c d E M3).bind fun z M4 => lift M4 (doCmp M4 p y z) else .ok false M3
  | .call f es, E, M => (evEs c es E M).bind fun xs M1 => (c.call f xs M1).bind fun x M2 => lift M2 (truth M2 x)
  | .isi a t, E, M => (evE c a E M).bind fun x M1 => lift M1 (isTyC c M1 x t)
  | .bi f es, E, M => (evEs c es E M).bind fun xs M1 => (doBi M1 f xs).bind fun x M2 => lift M2 (truth M2 x)
  | .idx a b, E, M => (evE c a E M).bind fun x M1 => (evE c b E M1).bind fun y M2 => (lift M2 (doIdx M2 x y)).bind fun z M3 => lift M3 (truth M3 z)
  | .meth o m es, E, M => (evE c o E M).bind fun x M1 => match x with
    | .loc n => (match M1[n]? with
      | some (.ins C fs) => (match fs.lookup m with
        | none => (evEs c es E M1).bind fun xs M2 => (c.meth C m (.loc n :: xs) M2).bind fun z M3 => lift M3 (truth M3 z)
        | some _ => .bad)
      | _ => .bad)
    | _ => .bad
  | _, _, _ => .bad
def evEs (c : Ctx) : Exs → Env → Store → Res (List PV)
  | .nil, _, M => .ok [] M
  | .cons e es, E, M => (evE c e E M).bind fun x M1 => (evEs c es E M1).bind fun xs M2 => .ok (x :: xs) M2
/-- a slice's bound -/
def evO (c : Ctx) : Ox → Env → Store → Res (Option Int)
  | .none, _, M => .ok none M
  | .some e, E, M => (evE c e E M).bind fun x M1 => match x with
    | .int i => .ok (some i) M1
    | _ => .bad
/-- a comprehension's test -/
def evC (c : Ctx) : Ox → Env → Store → Res Bool
  | .none, _, M => .ok true M
  | .some e, E, M => evT c e E M
def evI (c : Ctx) : Ix → Env → Store → Res (List PV × Watch)
  | .of e, E, M => (evE c e E M).bind fun x M1 => lift M1 (walked M1 x)
  | .rng1 a, E, M => (evE c a E M).bind fun x M1 => match x with
    | .int i => if inBound i then .ok (rangeOf 0 i, none) M1 else .bad
    | _ => .bad
  | .rng2 a b, E, M => (evE c a E M).bind fun x M1 => (evE c b E M1).bind fun y M2 => match x, y with
    | .int i, .int j => if inBound i && inBound j then .ok (rangeOf i j, none) M2 else .bad
    | _, _ => .bad
  | .rng3 a b d, E, M => (evE c a E M).bind fun x M1 => (evE c b E M1).bind fun y M2 => (evE c d E M2).bind fun z M3 => match x, y, z with
    | .int i, .int j, .int s => if inBound i && inBound j && decide (0 < s) && decide (s < 1000000) then .ok (rangeC i s ((j - i + s - 1) / s).toNat, none) M3 else if inBound i && inBound j && decide (s = -1) then .ok (rangeC i (-1) (i - j).toNat, none) M3 else .bad
    | _, _, _ => .bad
  | .enum e, E, M => (evE c e E M).bind fun x M1 => lift M1 (walkedE M1 x)
  | .zip a b, E, M => .bad
end

/-- how a statement ends -/
inductive Fl where
  | nx (E : Env)
  | rt (v : PV)
  | bk (E : Env)
  | ct (E : Env)

/-- a name that is no more -/
def Fl.unset (j : Nat) : Fl → Fl
  | .nx E => .nx (E.set j none)
  | .rt v => .rt v
  | .bk E => .bk (E.set j none)
  | .ct E => .ct (E.set j none)

def forGo (w : Watch) (step : PV → Env → Store → Res Fl) : List PV → Env → Store → Res Fl
  | [], E, M => if w.ok M then .ok (.nx E) M else .bad
  | x :: xs, E, M => if w.ok M then (step x E M).bind fun fl M1 => (match fl with
      | .nx E1 => forGo w step xs E1 M1
      | .ct E1 => forGo w step xs E1 M1
      | .bk E1 => .ok (.nx E1) M1
      | .rt v => .ok (.rt v) M1) else .bad
def whileGo (test : Env → Store → Res Bool) (step : Env → Store → Res Fl) : Nat → Env → Store → Res Fl
  | 0, _, _ => .bad
  | n + 1, E, M => (test E M).bind fun k M1 => if k = true then (step E M1).bind fun fl M2 => (match fl with
      | .nx E1 => whileGo test step n E1 M2
      | .ct E1 => whileGo test step n E1 M2
      | .bk E1 => .ok (.nx E1) M2
      | .rt v => .ok (.rt v) M2) else .ok (.nx E) M1

mutual
def evS (c : Ctx) : S → Env → Store → Res Fl
  | .asg i e, E, M => (evE c e E M).bind fun x M1 => .ok (.nx (E.set i (some x))) M1
  | .unp is e, E, M => (evE c e E M).bind fun x M1 => match setTg (.tup is) x E with
    | some E1 => .ok (.nx E1) M1
    | none => .bad
  | .seti o i e, E, M => (evE c e E M).bind fun v M1 => (evE c o E M1).bind fun x M2 => (evE c i E M2).bind fun k M3 => match x with
    | .loc n => (match M3[n]? with
      | some (.lst xs) => (match k with
        | .int j => (match ixOf xs.length j with
          | some p => .ok (.nx E) (M3.set n (.lst (xs.set p v)))
          | none => .bad)
        | _ => .bad)
      | some (.dic kvs) => if isKey k && decide (kvs.length < big) then .ok (.nx E) (M3.set n (.dic (putD k v kvs))) else .bad
      | _ => .bad)
    | _ => .bad
  | .setf o f e, E, M => (evE c e E M).bind fun v M1 => (evE c o E M1).bind fun x M2 => match x with
    | .loc n => (match M2[n]? with
      | some (.ins C fs) => .ok (.nx E) (M2.set n (.ins C (putF f v fs)))
      | _ => .bad)
    | _ => .bad
  | .nev, _, _ => .bad
  | .ex e, E, M => (evE c e E M).bind fun _ M1 => .ok (.nx E) M1
  | .ret e, E, M => (evE c e E M).bind fun x M1 => .ok (.rt x) M1
  | .retN, _, M => .ok (.rt .non) M
  | .pass, E, M => .ok (.nx E) M
  | .brk, E, M => .ok (.bk E) M
  | .cont, E, M => .ok (.ct E) M
  | .ifs t a b, E, M => (evT c t E M).bind fun k M1 => if k = true then evSs c a E M1 else evSs c b E M1
  | .whl t b, E, M => whileGo (fun E M => evT c t E M) (fun E M => evSs c b E M) c.wf E M
  | .for_ g it b, E, M => (evI c it E M).bind fun w M1 => forGo w.2 (fun x E M => match setTg g x E with
      | some E1 => evSs c b E1 M
      | none => .bad) w.1 E M1
  | .kill _, E, M => .ok (.nx E) M
  | .rai C es, E, M => (evEs c es E M).bind fun xs M1 => match c.exc C, xs with
    | some none, _ => .err ⟨C, [], []⟩ M1
    | some (some f), [v] => .err ⟨C, [f], [v]⟩ M1
    | _, _ => .bad
  | .tr i e hs, E, M => match evE c e E M with
    | .ok x M1 => .ok (.nx (match i with
      | some j => E.set j (some x)
      | none => E)) M1
    | .err x M1 => evHs c hs x E M1
    | .bad => .bad
/-- who catches it -/
def evHs (c : Ctx) : Hs → Exn → Env → Store → Res Fl
  | .nil, x, _, M => .err x M
  | .cons C i b hs, x, E, M => if c.sub x.cls C = true then (match i with
      | some j => (evSs c b (E.set j (some (.exc x.cls x.fs x.vs))) M).bind fun fl M1 => .ok (Fl.unset j fl) M1
      | none => evSs c b E M) else evHs c hs x E M
def evSs (c : Ctx) : Ss → Env → Store → Res Fl
  | .nil, E, M => .ok (.nx E) M
  | .cons s ss, E, M => (evS c s E M).bind fun fl M1 => match fl with
    | .nx E1 => evSs c ss E1 M1
    | fl => .ok fl M1
end

/-! ### a program -/
structure Fn where
  names : List Str
  np : Nat
  body : Ss
structure Tbl where
  fn : List (Str × Fn)
  glo : List (Str × PV)
  meths : List (Str × List (Str × Fn))
  /-- classes: those that they are under, themselves among them -/
  sups : List (Str × List Str) := []
  excs : List (Str × Option Str) := []

def Tbl.sub (T : Tbl) (C D : Str) : Bool := match T.sups.lookup C with
  | some l => decide (D ∈ l)
  | none => false
def runFn (c : Ctx) (f : Fn) (args : List PV) (M : Store) : Res PV :=
  if args.length = f.np then (evSs c f.body (args.map some ++ List.replicate (f.names.length - args.length) none) M).bind fun fl M1 => (match fl with
    | .rt v => .ok v M1
    | .nx _ => .ok .non M1
    | _ => .bad) else .bad

def ctx (T : Tbl) (wf : Nat) : Nat → Ctx
  | 0 => ⟨fun _ _ _ => .bad, fun _ _ _ => .bad, fun _ _ _ _ => .bad, fun x => T.glo.lookup x, wf, T.sub, fun C => T.excs.lookup C⟩
  | k + 1 => {
    call := fun f args M => match T.fn.lookup f with
      | some fn => runFn (ctx T wf k) fn args M
      | none => .bad
    make := fun C args M => match T.meths.lookup C with
      | some _ => ((ctx T wf k).meth C "__init__" (.loc M.length :: args) (M ++ [.ins C []])).bind fun v M1 => if v = .non then .ok (.loc M.length) M1 else .bad
      | none => .bad
    meth := fun C m args M => match (T.meths.lookup C).bind fun ms => ms.lookup m with
      | some fn => runFn (ctx T wf k) fn args M
      | none => .bad
    glo := fun x => T.glo.lookup x
    wf := wf
    sub := T.sub
    exc := fun C => T.excs.lookup C }
def calls (T : Tbl) (wf k : Nat) (f : Str) (args : List PV) (M : Store) : Res PV := (ctx T wf k).call f args M

end Wn
end
section
/-! So1: plain values over the heap: what stands for what, and that it stays. -/
namespace Wn
open PySem PySem.Spec PyProof.Rows L2

/-- the list at a never changes -/
def Still (K : PySem.W.Frag) (H : Hp) (a : Addr) (xs : List V) : Prop := (∃ o, H a = some (.frz o (.lst xs))) ∨ ∀ H', SqL K H' a xs

mutual
inductive RP (K : PySem.W.Frag) (H : Hp) (ρ : List Addr) : PV → V → Prop
  | non : RP K H ρ .non .non
  | bl (b : Bool) : RP K H ρ (.bl b) (.bl b)
  | int (i : Int) : RP K H ρ (.int i) (.int i)
  | str (x : Str) : RP K H ρ (.str x) (.str x)
  | tup {a : Addr} {vs : List V} {xs : List PV} : SqT K H a vs → RPs K H ρ xs vs → RP K H ρ (.tup xs) (.ref a)
  | loc {n : Nat} {a : Addr} : ρ[n]? = some a → RP K H ρ (.loc n) (.ref a)
  | fl {a : Addr} {xs : List Int} : Still K H a (xs.map V.int) → RP K H ρ (.fl xs) (.ref a)
inductive RPs (K : PySem.W.Frag) (H : Hp) (ρ : List Addr) : List PV → List V → Prop
  | nil : RPs K H ρ [] []
  | cons {x : PV} {v : V} {xs : List PV} {vs : List V} : RP K H ρ x v → RPs K H ρ xs vs → RPs K H ρ (x :: xs) (v :: vs)
end

/-- a key's text or number -/
def keyOf : PV → Option Key
  | .int i => some (.inl i)
  | .str x => some (.inr x)
  | _ => none
inductive RKV (K : PySem.W.Frag) (H : Hp) (ρ : List Addr) : List (PV × PV) → List (Key × V) → Prop
  | nil : RKV K H ρ [] []
  | cons {k : PV} {q : Key} {x : PV} {v : V} {kvs : List (PV × PV)} {us : List (Key × V)} : keyOf k = some q → RP K H ρ x v → RKV K H ρ kvs us → RKV K H ρ ((k, x) :: kvs) ((q, v) :: us)
inductive RFs (K : PySem.W.Frag) (H : Hp) (ρ : List Addr) : List (Str × PV) → List (Str × V) → Prop
  | nil : RFs K H ρ [] []
  | cons {f : Str} {x : PV} {v : V} {fs : List (Str × PV)} {us : List (Str × V)} : RP K H ρ x v → RFs K H ρ fs us → RFs K H ρ ((f, x) :: fs) ((f, v) :: us)

/-- the class's address, by its name -/
def clsAt (mg : Str → Option Value) (C : Str) (a : Addr) : Prop := mg C = some (.ref a)

section
variable (K : PySem.W.Frag) (mg : Str → Option Value)
def OR (H : Hp) (ρ : List Addr) (a : Addr) : MO → Prop
  | .lst xs => ∃ vs, H a = some (.lst vs) ∧ RPs K H ρ xs vs
  | .dic kvs => ∃ us, H a = some (.dK us) ∧ RKV K H ρ kvs us
  | .ins C fs => ∃ Ca dx us, H a = some (.ins Ca dx us) ∧ clsAt mg C Ca ∧ RFs K H ρ fs us
structure SR (H : Hp) (ρ : List Addr) (M : Store) : Prop where
  len : ρ.length = M.length
  nd : ρ.Nodup
  obj : ∀ (n : Nat) (a : Addr) (o : MO), ρ[n]? = some a → M[n]? = some o → OR K mg H ρ a o
end
/-- all else stays, places are only added -/
structure Ext (ρ : List Addr) (H : Hp) (ρ' : List Addr) (H' : Hp) : Prop where
  pre : ∃ τ, ρ' = ρ ++ τ ∧ ∀ a ∈ τ, a ∉ ρ ∧ H a = none
  keep : ∀ (a : Addr) (o : HO), a ∉ ρ → H a = some o → H' a = some o

theorem Ext.refl (ρ : List Addr) (H : Hp) : Ext ρ H ρ H := ⟨⟨[], (List.append_nil _).symm, fun _ h => nomatch h⟩, fun _ _ _ h => h⟩
theorem Ext.back {ρ ρ1 : List Addr} {H H1 : Hp} (a : Ext ρ H ρ1 H1) {c : Addr} (hc : c ∉ ρ) (h : H1 c = none) : H c = none := by
  cases e : H c with
  | none => rfl
  | some o =>
    have := a.keep c o hc e
    rw [h] at this
    cases this
theorem Ext.trans {ρ ρ1 ρ2 : List Addr} {H H1 H2 : Hp} (a : Ext ρ H ρ1 H1) (b : Ext ρ1 H1 ρ2 H2) : Ext ρ H ρ2 H2 := by
  obtain ⟨τ, e1, f1⟩ := a.pre
  obtain ⟨υ, e2, f2⟩ := b.pre
  refine ⟨⟨τ ++ υ, by rw [e2, e1, List.append_assoc], fun c hc => ?_⟩, fun c o hn h => ?_⟩
  · rcases List.mem_append.mp hc with h | h
    · exact f1 c h
    · obtain ⟨g1, g2⟩ := f2 c h
      rw [e1] at g1
      have g3 : c ∉ ρ := fun z => g1 (List.mem_append_left _ z)
      exact ⟨g3, a.back g3 g2⟩
  · by_cases hin : c ∈ τ
    · rw [(f1 c hin).2] at h; cases h
    · exact b.keep c o (by rw [e1]; intro z; rcases List.mem_append.mp z with z | z; exact hn z; exact hin z) (a.keep c o hn h)
theorem Ext.get {ρ ρ' : List Addr} {H H' : Hp} (e : Ext ρ H ρ' H') {n : Nat} {a : Addr} (h : ρ[n]? = some a) : ρ'[n]? = some a := by
  obtain ⟨τ, e1, _⟩ := e.pre
  rw [e1, List.getElem?_append_left]
  · exact h
  · exact (List.getElem?_eq_some_iff.mp h).1

/-! ### what stands for what stays so -/
section
variable {K : PySem.W.Frag} {mg : Str → Option Value} {H H' : Hp} {ρ ρ' : List Addr} {M : Store}

/-- the places of ρ hold what may change -/
def Mv (H : Hp) (ρ : List Addr) : Prop := ∀ a ∈ ρ, ∀ o, H a = some o → (∀ xs, o ≠ .tup xs) ∧ ∀ ob u, o ≠ .frz ob u
theorem SR.mv (S : SR K mg H ρ M) : Mv H ρ := by
  intro a ha o e
  obtain ⟨n, hn⟩ := List.getElem?_of_mem ha
  have hl : n < M.length := by rw [← S.len]; exact (List.getElem?_eq_some_iff.mp hn).1
  have q := S.obj n a M[n] hn (List.getElem?_eq_getElem hl)
  cases hm : M[n] with
  | lst xs =>
    rw [hm] at q
    obtain ⟨vs, h1, _⟩ := q
    rw [e] at h1; cases h1
    exact ⟨fun _ z => (by cases z), fun _ _ z => (by cases z)⟩
  | dic kvs =>
    rw [hm] at q
    obtain ⟨us, h1, _⟩ := q
    rw [e] at h1; cases h1
    exact ⟨fun _ z => (by cases z), fun _ _ z => (by cases z)⟩
  | ins C fs =>
    rw [hm] at q
    obtain ⟨Ca, dx, us, h1, _⟩ := q
    rw [e] at h1; cases h1
    exact ⟨fun _ z => (by cases z), fun _ _ z => (by cases z)⟩

theorem sqT_ext (mv : Mv H ρ) (e : Ext ρ H ρ' H') {a : Addr} {xs : List V} (h : SqT K H a xs) : SqT K H' a xs := by
  rcases h with h | h
  · rcases h with h | ⟨o, h⟩
    · exact Or.inl (Or.inl (e.keep a _ (fun z => (mv a z _ h).1 xs rfl) h))
    · exact Or.inl (Or.inr ⟨o, e.keep a _ (fun z => (mv a z _ h).2 _ _ rfl) h⟩)
  · exact Or.inr h
theorem still_ext (mv : Mv H ρ) (e : Ext ρ H ρ' H') {a : Addr} {xs : List V} (h : Still K H a xs) : Still K H' a xs := by
  rcases h with ⟨o, h⟩ | h
  · exact Or.inl ⟨o, e.keep a _ (fun z => (mv a z _ h).2 _ _ rfl) h⟩
  · exact Or.inr h
theorem Still.sq {a : Addr} {xs : List V} (h : Still K H a xs) : SqL K H a xs := by
  rcases h with ⟨o, h⟩ | h
  · exact Or.inl (Or.inr ⟨o, h⟩)
  · exact h H
mutual
theorem RP.ext (mv : Mv H ρ) (e : Ext ρ H ρ' H') : ∀ {p : PV} {v : V}, RP K H ρ p v → RP K H' ρ' p v
  | _, _, .non => .non
  | _, _, .bl b => .bl b
  | _, _, .int i => .int i
  | _, _, .str x => .str x
  | _, _, .tup h r => .tup (sqT_ext mv e h) (RPs.ext mv e r)
  | _, _, .loc h => .loc (e.get h)
  | _, _, .fl h => .fl (still_ext mv e h)
theorem RPs.ext (mv : Mv H ρ) (e : Ext ρ H ρ' H') : ∀ {ps : List PV} {vs : List V}, RPs K H ρ ps vs → RPs K H' ρ' ps vs
  | _, _, .nil => .nil
  | _, _, .cons h r => .cons (RP.ext mv e h) (RPs.ext mv e r)
end
theorem RKV.ext (mv : Mv H ρ) (e : Ext ρ H ρ' H') : ∀ {ps : List (PV × PV)} {vs : List (Key × V)}, RKV K H ρ ps vs → RKV K H' ρ' ps vs
  | _, _, .nil => .nil
  | _, _, .cons k h r => .cons k (RP.ext mv e h) (RKV.ext mv e r)
theorem RFs.ext (mv : Mv H ρ) (e : Ext ρ H ρ' H') : ∀ {ps : List (Str × PV)} {vs : List (Str × V)}, RFs K H ρ ps vs → RFs K H' ρ' ps vs
  | _, _, .nil => .nil
  | _, _, .cons h r => .cons (RP.ext mv e h) (RFs.ext mv e r)
theorem RPs.length : ∀ {ps : List PV} {vs : List V}, RPs K H ρ ps vs → ps.length = vs.length
  | _, _, .nil => rfl
  | _, _, .cons _ r => by rw [List.length_cons, List.length_cons, RPs.length r]
theorem RPs.get : ∀ {ps : List PV} {vs : List V} (r : RPs K H ρ ps vs) {i : Nat} {p : PV}, ps[i]? = some p → ∃ v, vs[i]? = some v ∧ RP K H ρ p v
  | _, _, .nil, i, p, h => by simp at h
  | _, _, .cons (v := v) h r, 0, p, e => by
    simp at e; subst e
    exact ⟨v, rfl, h⟩
  | _, _, .cons h r, i + 1, p, e => by
    simp only [List.getElem?_cons_succ] at e ⊢
    exact RPs.get r e
theorem RPs.getV : ∀ {ps : List PV} {vs : List V} (r : RPs K H ρ ps vs) {i : Nat} {v : V}, vs[i]? = some v → ∃ p, ps[i]? = some p ∧ RP K H ρ p v
  | _, _, .nil, i, p, h => by simp at h
  | _, _, .cons (x := x) h r, 0, p, e => by
    simp at e; subst e
    exact ⟨x, rfl, h⟩
  | _, _, .cons h r, i + 1, p, e => by
    simp only [List.getElem?_cons_succ] at e ⊢
    exact RPs.getV r e
theorem RPs.append : ∀ {ps qs : List PV} {vs us : List V}, RPs K H ρ ps vs → RPs K H ρ qs us → RPs K H ρ (ps ++ qs) (vs ++ us)
  | _, _, _, _, .nil, r => r
  | _, _, _, _, .cons h r, q => .cons h (RPs.append r q)
theorem RPs.take : ∀ {ps : List PV} {vs : List V} (n : Nat), RPs K H ρ ps vs → RPs K H ρ (ps.take n) (vs.take n)
  | _, _, 0, _ => by rw [List.take_zero, List.take_zero]; exact .nil
  | _, _, n + 1, .nil => by rw [List.take_nil, List.take_nil]; exact .nil
  | _, _, n + 1, .cons h r => by rw [List.take_succ_cons, List.take_succ_cons]; exact .cons h (RPs.take n r)
theorem RPs.drop : ∀ {ps : List PV} {vs : List V} (n : Nat), RPs K H ρ ps vs → RPs K H ρ (ps.drop n) (vs.drop n)
  | _, _, 0, r => r
  | _, _, n + 1, .nil => by rw [List.drop_nil, List.drop_nil]; exact .nil
  | _, _, n + 1, .cons h r => RPs.drop n r
theorem RPs.set : ∀ {ps : List PV} {vs : List V} (n : Nat) {p : PV} {v : V}, RPs K H ρ ps vs → RP K H ρ p v → RPs K H ρ (ps.set n p) (vs.set n v)
  | _, _, _, _, _, .nil, _ => .nil
  | _, _, 0, _, _, .cons h r, q => .cons q r
  | _, _, n + 1, _, _, .cons h r, q => .cons h (RPs.set n r q)
theorem RPs.snoc {ps : List PV} {vs : List V} {p : PV} {v : V} (r : RPs K H ρ ps vs) (h : RP K H ρ p v) : RPs K H ρ (ps ++ [p]) (vs ++ [v]) := r.append (.cons h .nil)
theorem RPs.dropLast {ps : List PV} {vs : List V} (r : RPs K H ρ ps vs) : RPs K H ρ ps.dropLast vs.dropLast := by
  rw [List.dropLast_eq_take, List.dropLast_eq_take, r.length]
  exact r.take _
theorem RPs.reverse : ∀ {ps : List PV} {vs : List V}, RPs K H ρ ps vs → RPs K H ρ ps.reverse vs.reverse
  | _, _, .nil => .nil
  | _, _, .cons h r => by rw [List.reverse_cons, List.reverse_cons]; exact (RPs.reverse r).snoc h
theorem RPs.flat {ps : List PV} {vs : List V} (r : RPs K H ρ ps vs) : ∀ k : Nat, RPs K H ρ (List.replicate k ps).flatten (List.replicate k vs).flatten
  | 0 => .nil
  | k + 1 => by rw [List.replicate_succ, List.replicate_succ, List.flatten_cons, List.flatten_cons]; exact r.append (RPs.flat r k)
theorem RPs.ints : ∀ (ns : List Int), RPs K H ρ (ns.map PV.int) (ns.map V.int)
  | [] => .nil
  | n :: r => .cons (.int n) (RPs.ints r)

/-! ### the store, step by step -/
theorem SR.get (S : SR K mg H ρ M) {n : Nat} {o : MO} (h : M[n]? = some o) : ∃ a, ρ[n]? = some a ∧ OR K mg H ρ a o := by
  have hl : n < ρ.length := by rw [S.len]; exact (List.getElem?_eq_some_iff.mp h).1
  exact ⟨ρ[n], List.getElem?_eq_getElem hl, S.obj n _ o (List.getElem?_eq_getElem hl) h⟩
theorem OR.ext (mv : Mv H ρ) (e : Ext ρ H ρ' H') {a b : Addr} {o : MO} (h : OR K mg H ρ a o) (hb : H' b = H a) : OR K mg H' ρ' b o := by
  cases o with
  | lst xs =>
    obtain ⟨vs, h1, h2⟩ := h
    exact ⟨vs, hb.trans h1, h2.ext mv e⟩
  | dic kvs =>
    obtain ⟨us, h1, h2⟩ := h
    exact ⟨us, hb.trans h1, h2.ext mv e⟩
  | ins C fs =>
    obtain ⟨Ca, dx, us, h1, h2, h3⟩ := h
    exact ⟨Ca, dx, us, hb.trans h1, h2, h3.ext mv e⟩
/-- nothing of ours is touched -/
theorem SR.same (S : SR K mg H ρ M) (e : Ext ρ H ρ H') (h : ∀ a ∈ ρ, H' a = H a) : SR K mg H' ρ M :=
  ⟨S.len, S.nd, fun n a o h1 h2 => (S.obj n a o h1 h2).ext S.mv e (h a (List.mem_of_getElem? h1))⟩
theorem ext_new {p : Addr} {o : HO} (hp : H p = none) : Ext ρ H ρ (upd H p o) :=
  ⟨⟨[], (List.append_nil _).symm, fun _ h => nomatch h⟩, fun a u _ h => by rw [upd_ne (ne_of_none h hp)]; exact h⟩
theorem SR.notin (S : SR K mg H ρ M) {p : Addr} (hp : H p = none) : p ∉ ρ := by
  intro hin
  obtain ⟨n, hn⟩ := List.getElem?_of_mem hin
  have hl : n < M.length := by rw [← S.len]; exact (List.getElem?_eq_some_iff.mp hn).1
  have q := S.obj n p M[n] hn (List.getElem?_eq_getElem hl)
  cases hm : M[n] with
  | lst xs => rw [hm] at q; obtain ⟨vs, h1, _⟩ := q; rw [hp] at h1; cases h1
  | dic xs => rw [hm] at q; obtain ⟨vs, h1, _⟩ := q; rw [hp] at h1; cases h1
  | ins C fs => rw [hm] at q; obtain ⟨Ca, dx, us, h1, _⟩ := q; rw [hp] at h1; cases h1
/-- a new thing that is none of ours (a tuple) -/
theorem SR.new (S : SR K mg H ρ M) {p : Addr} {o : HO} (hp : H p = none) : SR K mg (upd H p o) ρ M :=
  S.same (ext_new hp) fun a ha => upd_ne (fun e => S.notin hp (e ▸ ha))
theorem ext_laid (S : SR K mg H ρ M) {p : Addr} {o : HO} (hp : H p = none) : Ext ρ H (ρ ++ [p]) (upd H p o) :=
  ⟨⟨[p], rfl, fun a h => by cases List.mem_singleton.mp h; exact ⟨S.notin hp, hp⟩⟩, fun a u _ h => by rw [upd_ne (ne_of_none h hp)]; exact h⟩
/-- a new thing of ours -/
theorem SR.laid (S : SR K mg H ρ M) {p : Addr} {o : HO} {m : MO} (hp : H p = none) (new : OR K mg (upd H p o) (ρ ++ [p]) p m) : SR K mg (upd H p o) (ρ ++ [p]) (M ++ [m]) := by
  have e := ext_laid S (o := o) hp
  refine ⟨by rw [List.length_append, List.length_append, S.len]; rfl, ?_, fun n a q h1 h2 => ?_⟩
  · exact List.nodup_append.mpr ⟨S.nd, (List.nodup_cons.mpr ⟨(fun z => nomatch z), List.nodup_nil⟩), fun x hx y hy => by cases List.mem_singleton.mp hy; exact fun z => S.notin hp (z ▸ hx)⟩
  · by_cases hn : n < ρ.length
    · rw [List.getElem?_append_left hn] at h1
      rw [List.getElem?_append_left (by rw [← S.len]; exact hn)] at h2
      exact (S.obj n a q h1 h2).ext S.mv e (upd_ne (fun z => S.notin hp (z ▸ List.mem_of_getElem? h1)))
    · rw [List.getElem?_append_right (by omega)] at h1
      rw [List.getElem?_append_right (by have := S.len; omega)] at h2
      have hk : n - ρ.length = 0 := by
        have := (List.getElem?_eq_some_iff.mp h1).1
        simp at this; omega
      rw [hk] at h1
      rw [← S.len, hk] at h2
      simp at h1 h2
      subst h1 h2
      exact new
theorem loc_new {p : Addr} (S : SR K mg H ρ M) : RP K H' (ρ ++ [p]) (.loc M.length) (.ref p) := by
  refine .loc ?_
  rw [← S.len, List.getElem?_append_right (Nat.le_refl _), Nat.sub_self]
  rfl
theorem ext_put {p : Addr} {o : HO} (hp : p ∈ ρ) : Ext ρ H ρ (upd H p o) :=
  ⟨⟨[], (List.append_nil _).symm, fun _ h => nomatch h⟩, fun a u ha h => by rw [upd_ne (a := p) (b := a) (fun z => ha (by rw [z]; exact hp))]; exact h⟩
theorem nd_get {l : List Addr} (hN : l.Nodup) {i j : Nat} {x : Addr} (a : l[i]? = some x) (b : l[j]? = some x) : i = j := L2.nd_ix hN a b
/-- one of ours is put in another's place -/
theorem SR.put (S : SR K mg H ρ M) {n : Nat} {p : Addr} {o : HO} {m : MO} (hn : ρ[n]? = some p) (new : OR K mg (upd H p o) ρ p m) : SR K mg (upd H p o) ρ (M.set n m) := by
  have hp : p ∈ ρ := List.mem_of_getElem? hn
  have e := ext_put (H := H) (o := o) hp
  refine ⟨by rw [List.length_set]; exact S.len, S.nd, fun k a q h1 h2 => ?_⟩
  by_cases hk : k = n
  · subst hk
    rw [hn] at h1; cases h1
    have hl : k < M.length := by rw [← S.len]; exact (List.getElem?_eq_some_iff.mp hn).1
    rw [List.getElem?_set_self hl] at h2
    cases h2
    exact new
  · rw [List.getElem?_set_ne (fun z => hk z.symm)] at h2
    exact (S.obj k a q h1 h2).ext S.mv e (upd_ne (fun z => hk (nd_get S.nd (z ▸ h1) hn)))
end
end Wn
end
section
/-! So2: readings by the evaluator, and how they are put together. -/
namespace Wn
open PySem PySem.Spec PyProof.Rows L2

/-- the slots -/
def ER (K : PySem.W.Frag) (H : Hp) (ρ : List Addr) (E : Env) (σ : L2.St) : Prop := E.length = σ.length ∧ ∀ (i : Nat) (p : PV), E[i]? = some (some p) → ∃ v, σ[i]? = some (some v) ∧ RP K H ρ p v

theorem ER.ext {K : PySem.W.Frag} {H H' : Hp} {ρ ρ' : List Addr} {E : Env} {σ : L2.St} (mv : Mv H ρ) (e : Ext ρ H ρ' H') (h : ER K H ρ E σ) : ER K H' ρ' E σ :=
  ⟨h.1, fun i p q => by obtain ⟨v, a, b⟩ := h.2 i p q; exact ⟨v, a, b.ext mv e⟩⟩
theorem ER.set {K : PySem.W.Frag} {H : Hp} {ρ : List Addr} {E : Env} {σ : L2.St} (h : ER K H ρ E σ) {p : PV} {v : V} (r : RP K H ρ p v) (i : Nat) : ER K H ρ (E.set i (some p)) (σ.set i (some v)) := by
  refine ⟨by rw [List.length_set, List.length_set]; exact h.1, fun j q e => ?_⟩
  by_cases hj : j = i
  · subst hj
    have hl : j < E.length := by have := (List.getElem?_eq_some_iff.mp e).1; rw [List.length_set] at this; exact this
    rw [List.getElem?_set_self hl] at e
    cases e
    exact ⟨v, List.getElem?_set_self (by rw [← h.1]; exact hl), r⟩
  · rw [List.getElem?_set_ne (fun z => hj z.symm)] at e ⊢
    exact h.2 j q e

/-- what is wanted where an error leaves -/
structure EW where
  p : L2.St → Hp → List Addr → Exn → Store → Prop
  mono : ∀ {σ : L2.St} {H H' : Hp} {ρ ρ' : List Addr} {x : Exn} {M : Store}, Ext ρ H ρ' H' → p σ H ρ x M → p σ H' ρ' x M
def EW.no : EW := ⟨fun _ _ _ _ _ => False, fun _ h => h⟩

section
variable (K : PySem.W.Frag) (mg : Str → Option Value) (W : EW)
def post {α : Type} (σ : L2.St) (H : Hp) (ρ : List Addr) (r : Res α) (G : List Addr → Hp → α → Store → Prop) : Prop := match r with
  | .ok a M' => ∀ ρ' H', Ext ρ H ρ' H' → SR K mg H' ρ' M' → G ρ' H' a M'
  | .err x M' => W.p σ H ρ x M'
  | .bad => False
end
section
variable {K : PySem.W.Frag} {mg : Str → Option Value} {W : EW} {α β : Type} {σ : L2.St} {H H1 : Hp} {ρ ρ1 : List Addr} {r : Res α} {f : α → Store → Res β} {G : List Addr → Hp → β → Store → Prop}
theorem post_ext {G : List Addr → Hp → α → Store → Prop} (e : Ext ρ H ρ1 H1) (h : post K mg W σ H ρ r G) : post K mg W σ H1 ρ1 r G := by
  cases r with
  | ok a M => exact fun ρ' H' e' s => h ρ' H' (e.trans e') s
  | err x M => exact W.mono e h
  | bad => exact h
theorem post_bind (h : post K mg W σ H ρ (r.bind f) G) : post K mg W σ H ρ r (fun ρ1 H1 a M1 => post K mg W σ H1 ρ1 (f a M1) G) := by
  cases r with
  | ok a M => exact fun ρ1 H1 e _ => post_ext e h
  | err x M => exact h
  | bad => exact h
theorem post_imp {G G' : List Addr → Hp → α → Store → Prop} (h : post K mg W σ H ρ r G) (hG : ∀ ρ' H' a M', Ext ρ H ρ' H' → SR K mg H' ρ' M' → G ρ' H' a M' → G' ρ' H' a M') : post K mg W σ H ρ r G' := by
  cases r with
  | ok a M => exact fun ρ' H' e s => hG ρ' H' a M e s (h ρ' H' e s)
  | err x M => exact h
  | bad => exact h
theorem post_ok {a : α} {M : Store} {G : List Addr → Hp → α → Store → Prop} (h : post K mg W σ H ρ (.ok a M) G) (s : SR K mg H ρ M) : G ρ H a M := h ρ H (Ext.refl _ _) s
theorem post_lift {M : Store} {o : Option α} {G : List Addr → Hp → α → Store → Prop} (h : post K mg W σ H ρ (lift M o) G) : ∃ a, o = some a ∧ post K mg W σ H ρ (.ok a M) G := by
  cases o with
  | none => exact h.elim
  | some a => exact ⟨a, rfl, h⟩
end

/-! ### readings -/
section
variable (K : PySem.W.Frag) (mg : Str → Option Value) (W : EW)
/-- of a value -/
def gE (Q : VK) (ρ : List Addr) (H : Hp) (p : PV) (_ : Store) : Prop := ∀ v, RP K H ρ p v → Q v H
def tE (r : Env → Store → Res PV) : TE := fun σ H Q => ∃ ρ E M, ER K H ρ E σ ∧ SR K mg H ρ M ∧ post K mg W σ H ρ (r E M) (gE K Q)
def tT (r : Env → Store → Res Bool) : TT := fun σ H Q => ∃ ρ E M, ER K H ρ E σ ∧ SR K mg H ρ M ∧ post K mg W σ H ρ (r E M) (fun _ H' b _ => Q b H')
def tA (r : Env → Store → Res (List PV)) : TA := fun σ H Q => ∃ ρ E M, ER K H ρ E σ ∧ SR K mg H ρ M ∧ post K mg W σ H ρ (r E M) (fun ρ' H' ps _ => ∀ vs, RPs K H' ρ' ps vs → Q vs H')
def tO (r : Env → Store → Res (Option Int)) : TO := fun σ H Q => ∃ ρ E M, ER K H ρ E σ ∧ SR K mg H ρ M ∧ post K mg W σ H ρ (r E M) (fun _ H' o _ => Q o H')
/-- how a statement ends -/
def gF (D : Ends) (σ : L2.St) (ρ : List Addr) (H : Hp) (fl : Fl) (_ : Store) : Prop := match fl with
  | .nx E' => ∀ σ', ER K H ρ E' σ' → D.nx σ' H
  | .bk E' => ∀ σ', ER K H ρ E' σ' → D.bk σ' H
  | .ct E' => ∀ σ', ER K H ρ E' σ' → D.ct σ' H
  | .rt p => ∀ v, RP K H ρ p v → D.rt v H
end

/-! ### rules weakened -/
section
variable {X : Cx}
theorem pe_imp {e : Expr} {t t' : TE} (h : PE X e t) (i : ∀ σ H Q, t' σ H Q → t σ H Q) : PE X e t' := ⟨fun pins s σ H Q I q => h.run pins s σ H Q I (i σ H Q q)⟩
theorem pt_imp {e : Expr} {t t' : TT} (h : PT X e t) (i : ∀ σ H Q, t' σ H Q → t σ H Q) : PT X e t' := ⟨fun pins s σ H Q I q => h.run pins s σ H Q I (i σ H Q q)⟩
theorem pw_imp {e : Expr} {t t' : TT} (h : PW X e t) (i : ∀ σ H Q, t' σ H Q → t σ H Q) : PW X e t' := ⟨fun w pins s σ H Q I q => h.run w pins s σ H Q I (i σ H Q q)⟩
theorem pa_imp {e : List Expr} {t t' : TA} (h : PA X e t) (i : ∀ σ H Q, t' σ H Q → t σ H Q) : PA X e t' := ⟨fun pos pins s σ H Q I q => h.run pos pins s σ H Q I (i σ H Q q)⟩
theorem po_imp {e : Option Expr} {t t' : TO} (h : PO X e t) (i : ∀ σ H Q, t' σ H Q → t σ H Q) : PO X e t' := ⟨fun pins s σ H Q I q => h.run pins s σ H Q I (i σ H Q q)⟩
theorem ps_imp {e : Stmt} {t t' : TS} (h : PS X e t) (i : ∀ D σ H, t' D σ H → t D σ H) : PS X e t' := ⟨fun pins s σ H D I q => h.run pins s σ H D I (i D σ H q)⟩
theorem pss_imp {e : List Stmt} {t t' : TS} (h : PSs X e t) (i : ∀ D σ H, t' D σ H → t D σ H) : PSs X e t' := ⟨fun pins s σ H D I q => h.run pins s σ H D I (i D σ H q)⟩
theorem pi_imp {tg e : Expr} {t t' : TI} (h : PI X tg e t) (i : ∀ σ H Q, t' σ H Q → t σ H Q) : PI X tg e t' := ⟨fun pins s σ H Q I q => h.run pins s σ H Q I (i σ H Q q)⟩
theorem pe_either {e : Expr} {t u : TE} (h : PE X e t) (g : PE X e u) : PE X e (fun σ H Q => t σ H Q ∨ u σ H Q) := ⟨fun pins s σ H Q I q => q.elim (h.run pins s σ H Q I) (g.run pins s σ H Q I)⟩
theorem pi_either {tg e : Expr} {t u : TI} (h : PI X tg e t) (g : PI X tg e u) : PI X tg e (fun σ H Q => t σ H Q ∨ u σ H Q) := ⟨fun pins s σ H Q I q => q.elim (h.run pins s σ H Q I) (g.run pins s σ H Q I)⟩
theorem opr_imp {f : Value → Value → Sem Value} {r r' : R2} (h : OpR X f r) (i : ∀ x y H Q, r' x y H Q → r x y H Q) : OpR X f r' := fun pins s σ H x y v u Q I a b q => h pins s σ H x y v u Q I a b (i x y H Q q)
theorem ixr_imp {r r' : R2} (h : IxR X r) (i : ∀ x y H Q, r' x y H Q → r x y H Q) : IxR X r' := fun a1 a2 pins s σ H x y v u Q I a b q => h a1 a2 pins s σ H x y v u Q I a b (i x y H Q q)
theorem slr_imp {r r' : V → Option Int → Option Int → Hp → VK → Prop} (h : SlR X r) (i : ∀ x l u H Q, r' x l u H Q → r x l u H Q) : SlR X r' :=
  fun pins s σ H x v vl vu lo hi sl Q I a b c d q => h pins s σ H x v vl vu lo hi sl Q I a b c d (i x lo hi H Q q)
theorem callr_imp {f : Value} {r r' : List V → Hp → VK → Prop} (h : CallR X f r) (i : ∀ xs H Q, r' xs H Q → r xs H Q) : CallR X f r' := fun pins s σ H xs us Q I a q => h pins s σ H xs us Q I a (i xs H Q q)
theorem mtr_imp {f : String} {r r' : V → List V → Hp → VK → Prop} (h : MtR X f r) (i : ∀ x xs H Q, r' x xs H Q → r x xs H Q) : MtR X f r' := fun pins s σ H x xs v us Q I a b q => h pins s σ H x xs v us Q I a b (i x xs H Q q)
theorem pset_imp {r r' : TSet} (h : PSet X r) (i : ∀ o k v H Q, r' o k v H Q → r o k v H Q) : PSet X r' := fun pins s σ H o k v ov kv u Q I a b c q => h pins s σ H o k v ov kv u Q I a b c (i o k v H Q q)
end

/-! ### operations by values: the store as it may be -/
section
variable (K : PySem.W.Frag) (mg : Str → Option Value)
def r2 (f : Store → PV → PV → Res PV) : R2 := fun x y H Q => ∃ ρ M p q, SR K mg H ρ M ∧ RP K H ρ p x ∧ RP K H ρ q y ∧ ∀ σ, post K mg EW.no σ H ρ (f M p q) (gE K Q)
def rL (f : Store → List PV → Res PV) : List V → Hp → VK → Prop := fun xs H Q => ∃ ρ M ps, SR K mg H ρ M ∧ RPs K H ρ ps xs ∧ ∀ σ, post K mg EW.no σ H ρ (f M ps) (gE K Q)
def rM (f : Store → PV → List PV → Res PV) : V → List V → Hp → VK → Prop := fun x xs H Q => ∃ ρ M p ps, SR K mg H ρ M ∧ RP K H ρ p x ∧ RPs K H ρ ps xs ∧ ∀ σ, post K mg EW.no σ H ρ (f M p ps) (gE K Q)
end
/-- an operation lets no error out -/
def NoErr {α : Type} (r : Res α) : Prop := ∀ x M, r ≠ .err x M
theorem post_no {α : Type} {K : PySem.W.Frag} {mg : Str → Option Value} {W W' : EW} {σ σ' : L2.St} {H : Hp} {ρ : List Addr} {r : Res α} {G : List Addr → Hp → α → Store → Prop} (n : NoErr r) (h : post K mg W σ H ρ r G) : post K mg W' σ' H ρ r G := by
  cases r with
  | ok a M => exact h
  | err x M => exact absurd rfl (n x M)
  | bad => exact h

section
variable {X : Cx} {W : EW} {a b c : Expr} {ra rb rc : Env → Store → Res PV} {pos : Pos}

/-- two in a row -/
theorem two {f : PV → PV → Store → Res PV} {σ : L2.St} {H : Hp} {Q : VK} {R : R2}
    (h : tE X.K X.mg W (fun E M => (ra E M).bind fun x M1 => (rb E M1).bind fun y M2 => f x y M2) σ H Q)
    (hR : ∀ ρ H E M p q x y, ER X.K H ρ E σ → SR X.K X.mg H ρ M → RP X.K H ρ p x → RP X.K H ρ q y → post X.K X.mg W σ H ρ (f p q M) (gE X.K Q) → R x y H Q) :
    tE X.K X.mg W ra σ H fun x H1 => tE X.K X.mg W rb σ H1 fun y H2 => R x y H2 Q := by
  obtain ⟨ρ, E, M, er, sr, h⟩ := h
  refine ⟨ρ, E, M, er, sr, post_imp (post_bind h) fun ρ1 H1 p M1 e1 s1 h1 x rx => ?_⟩
  refine ⟨ρ1, E, M1, er.ext sr.mv e1, s1, post_imp (post_bind h1) fun ρ2 H2 q M2 e2 s2 h2 y ry => ?_⟩
  exact hR ρ2 H2 E M2 p q x y ((er.ext sr.mv e1).ext s1.mv e2) s2 (rx.ext s1.mv e2) ry h2
theorem one {f : PV → Store → Res PV} {σ : L2.St} {H : Hp} {Q : VK} {R : V → Hp → VK → Prop}
    (h : tE X.K X.mg W (fun E M => (ra E M).bind fun x M1 => f x M1) σ H Q)
    (hR : ∀ ρ H E M p x, ER X.K H ρ E σ → SR X.K X.mg H ρ M → RP X.K H ρ p x → post X.K X.mg W σ H ρ (f p M) (gE X.K Q) → R x H Q) :
    tE X.K X.mg W ra σ H fun x H1 => R x H1 Q := by
  obtain ⟨ρ, E, M, er, sr, h⟩ := h
  refine ⟨ρ, E, M, er, sr, post_imp (post_bind h) fun ρ1 H1 p M1 e1 s1 h1 x rx => ?_⟩
  exact hR ρ1 H1 E M1 p x (er.ext sr.mv e1) s1 rx h1

/-! ### names, constants -/
theorem e_var {i : Nat} {x : Str} (hN : X.N[i]? = some x) (hv : Vis X.env.scope x) (hd : (x == ("__debug__" : Str)) = false) (hcd : (x == ("__classdict__" : Str)) = false) (c : Ctx) : PE X (.Name x pos) (tE X.K X.mg W (evE c (.var i))) :=
  pe_imp (pe_var hN hv hd hcd) fun σ H Q ⟨ρ, E, M, er, sr, h⟩ => by
    simp only [evE] at h
    split at h
    · rename_i v hv
      obtain ⟨u, hu, ru⟩ := er.2 i v hv
      exact ⟨u, hu, post_ok h sr u ru⟩
    · exact h.elim
theorem e_int {i : Int} {k : Nat} (c : Ctx) : PE X (.Constant (.int i) k pos) (tE X.K X.mg W (evE c (.int i))) :=
  pe_imp pe_int fun σ H Q ⟨ρ, E, M, er, sr, h⟩ => by
    simp only [evE] at h
    exact post_ok h sr _ (.int i)
theorem e_bl {i : Bool} {k : Nat} (c : Ctx) : PE X (.Constant (.bool i) k pos) (tE X.K X.mg W (evE c (.bl i))) :=
  pe_imp pe_bl fun σ H Q ⟨ρ, E, M, er, sr, h⟩ => by
    simp only [evE] at h
    exact post_ok h sr _ (.bl i)
theorem e_str {i : Str} {k : Nat} (c : Ctx) : PE X (.Constant (.str i) k pos) (tE X.K X.mg W (evE c (.str i))) :=
  pe_imp pe_str fun σ H Q ⟨ρ, E, M, er, sr, h⟩ => by
    simp only [evE] at h
    exact post_ok h sr _ (.str i)
theorem e_non {k : Nat} (c : Ctx) : PE X (.Constant .none k pos) (tE X.K X.mg W (evE c .non)) :=
  pe_imp pe_non fun σ H Q ⟨ρ, E, M, er, sr, h⟩ => by
    simp only [evE] at h
    exact post_ok h sr _ .non
/-- a module's constant -/
theorem e_glo {x : Str} {p : PV} {v : V} {u : Value} {c : Ctx} (hg : Gl X x) (hm : X.mg x = some u) (r : RelV v u) (hp : c.glo x = some p) (hr : ∀ H ρ, RP X.K H ρ p v) (hd : (x == ("__debug__" : Str)) = false) :
    PE X (.Name x pos) (tE X.K X.mg W (evE c (.glo x))) :=
  pe_imp (pe_glob hg hm r hd) fun σ H Q ⟨ρ, E, M, er, sr, h⟩ => by
    simp only [evE, hp] at h
    exact post_ok h sr _ (hr H ρ)
/-! ### operators -/
theorem e_bin {op : Operator} {bo : BOp} {ea eb : Ex} {c : Ctx} (ho : OpR X (binaryOp op) (r2 X.K X.mg fun M p q => doBin M bo p q)) (hn : ∀ M p q, NoErr (doBin M bo p q))
    (ha : PE X a (tE X.K X.mg W (evE c ea))) (hb : PE X b (tE X.K X.mg W (evE c eb))) : PE X (.BinOp a op b pos) (tE X.K X.mg W (evE c (.bin bo ea eb))) :=
  pe_imp (pe_op ho ha hb) fun σ H Q h => by
    exact two (ra := evE c ea) (rb := evE c eb) (f := fun x y M2 => doBin M2 bo x y) h fun ρ H E M p q x y er sr rx ry h => ⟨ρ, M, p, q, sr, rx, ry, fun σ' => post_no (hn M p q) h⟩
end
end Wn
end
section
/-! So3: operators on values. -/
namespace Wn
open PySem PySem.Spec PyProof.Rows L2

theorem big_eq : big = sizeLine := by decide
theorem le_big {n : Nat} (h : n ≤ big) : n ≤ sizeLine := big_eq ▸ h
theorem lt_big {n : Nat} (h : n < big) : n < sizeLine := big_eq ▸ h
section
variable {K : PySem.W.Frag} {mg : Str → Option Value} {H : Hp} {ρ : List Addr} {M : Store}
theorem RPs.nilV {ps : List PV} (r : RPs K H ρ ps []) : ps = [] := by cases r; rfl
theorem RPs.nilP {vs : List V} (r : RPs K H ρ [] vs) : vs = [] := by cases r; rfl
/-- a new tuple -/
theorem new_tup {p : Addr} {vs : List V} {ps : List PV} (S : SR K mg H ρ M) (hp : H p = none) (r : RPs K H ρ ps vs) : RP K (upd H p (.tup vs)) ρ (.tup ps) (.ref p) :=
  .tup (SqT.of upd_same) (r.ext S.mv (ext_new hp))
/-- the list of ours at n -/
theorem SR.lst {n : Nat} {a : Addr} {xs : List PV} (S : SR K mg H ρ M) (hn : ρ[n]? = some a) (hm : M[n]? = some (.lst xs)) : ∃ vs, H a = some (.lst vs) ∧ RPs K H ρ xs vs := S.obj n a _ hn hm
theorem SR.dic {n : Nat} {a : Addr} {kvs : List (PV × PV)} (S : SR K mg H ρ M) (hn : ρ[n]? = some a) (hm : M[n]? = some (.dic kvs)) : ∃ us, H a = some (.dK us) ∧ RKV K H ρ kvs us := S.obj n a _ hn hm
theorem or_lst {p : Addr} {vs : List V} {ps : List PV} (S : SR K mg H ρ M) (hp : H p = none) (r : RPs K H ρ ps vs) : OR K mg (upd H p (.lst vs)) (ρ ++ [p]) p (.lst ps) :=
  ⟨vs, upd_same, r.ext S.mv (ext_laid S hp)⟩
/-- a new list -/
theorem lay_lst {W : EW} {σ : L2.St} {Q : VK} {ps : List PV} {vs : List V} (S : SR K mg H ρ M) (r : RPs K H ρ ps vs) (h : post K mg W σ H ρ (.ok (.loc M.length) (M ++ [.lst ps])) (gE K Q)) {p : Addr} (hp : H p = none) : Q (.ref p) (upd H p (.lst vs)) :=
  h _ _ (ext_laid S hp) (S.laid hp (or_lst S hp r)) _ (loc_new S)
theorem lay_tup {W : EW} {σ : L2.St} {Q : VK} {ps : List PV} {vs : List V} (S : SR K mg H ρ M) (r : RPs K H ρ ps vs) (h : post K mg W σ H ρ (.ok (.tup ps) M) (gE K Q)) {p : Addr} (hp : H p = none) : Q (.ref p) (upd H p (.tup vs)) :=
  h _ _ (ext_new hp) (S.new hp) _ (new_tup S hp r)
/-- a list of ours rewritten -/
theorem put_lst {W : EW} {σ : L2.St} {Q : VK} {n : Nat} {a : Addr} {p : PV} {v : V} {ps : List PV} {vs : List V} (S : SR K mg H ρ M) (hn : ρ[n]? = some a) (r : RPs K H ρ ps vs) (rv : RP K H ρ p v)
    (h : post K mg W σ H ρ (.ok p (M.set n (.lst ps))) (gE K Q)) : Q v (upd H a (.lst vs)) :=
  h _ _ (ext_put (List.mem_of_getElem? hn)) (S.put hn ⟨vs, upd_same, r.ext S.mv (ext_put (List.mem_of_getElem? hn))⟩) _ (rv.ext S.mv (ext_put (List.mem_of_getElem? hn)))
end

section
variable {X : Cx}
theorem op_doAdd : OpR X (binaryOp .Add) (r2 X.K X.mg fun M p q => doBin M .add p q) := by
  refine opr_imp (((op_add.or op_add_str).or op_catA).or op_cat) ?_
  rintro x y H Q ⟨ρ, M, p, q, sr, rx, ry, h⟩
  have h := h []
  cases rx with
  | int i => cases ry with
    | int j => exact Or.inl (Or.inl (Or.inl ⟨i, j, rfl, rfl, post_ok h sr _ (.int _)⟩))
    | _ => exact h.elim
  | str i => cases ry with
    | str j =>
      simp only [doBin] at h
      split at h
      · exact Or.inl (Or.inl (Or.inr ⟨i, j, rfl, rfl, le_big ‹_›, post_ok h sr _ (.str _)⟩))
      · exact h.elim
    | _ => exact h.elim
  | @tup a vs ps ha ra => cases ry with
    | @tup b us qs hb rb =>
      simp only [doBin] at h
      split at h
      · rename_i hl
        refine Or.inl (Or.inr ⟨a, b, vs, us, rfl, rfl, ha, hb, ?_, fun e => ?_, fun e f => ?_, fun e f p hp => ?_⟩)
        · rw [← ra.length, ← rb.length]; exact le_big hl
        · subst e
          rw [ra.nilV] at h
          exact post_ok h sr _ (.tup hb rb)
        · subst f
          rw [rb.nilV, List.append_nil] at h
          exact post_ok h sr _ (.tup ha ra)
        · exact lay_tup sr (ra.append rb) h hp
      · exact h.elim
    | _ => exact h.elim
  | @loc n a ha => cases ry with
    | @loc m b hb =>
      simp only [doBin] at h
      split at h
      · rename_i xs ys h1 h2
        split at h
        · rename_i hl
          obtain ⟨vs, e1, r1⟩ := sr.lst ha h1
          obtain ⟨us, e2, r2⟩ := sr.lst hb h2
          exact Or.inr ⟨a, b, vs, us, rfl, rfl, e1, e2, by rw [← r1.length, ← r2.length]; exact le_big hl, fun p hp => lay_lst sr (r1.append r2) h hp⟩
        · exact h.elim
      · exact h.elim
    | _ => exact h.elim
  | _ => exact h.elim
theorem op_doSub : OpR X (binaryOp .Sub) (r2 X.K X.mg fun M p q => doBin M .sub p q) := by
  refine opr_imp op_sub ?_
  rintro x y H Q ⟨ρ, M, p, q, sr, rx, ry, h⟩
  have h := h []
  cases rx with
  | int i => cases ry with
    | int j => exact ⟨i, j, rfl, rfl, post_ok h sr _ (.int _)⟩
    | _ => exact h.elim
  | _ => exact h.elim
theorem mul_ok {i j : Int} (h : mulOk i j = true) : CMul i j := by
  simp only [mulOk, Bool.or_eq_true, decide_eq_true_eq] at h
  rcases h with h | h
  · exact Or.inl (by omega)
  · exact Or.inr (by omega)
theorem op_doFdiv : OpR X (binaryOp .FloorDiv) (r2 X.K X.mg fun M p q => doBin M .fdiv p q) := by
  refine opr_imp op_fdivW ?_
  rintro x y H Q ⟨ρ, M, p, q, sr, rx, ry, h⟩
  have h := h []
  cases rx with
  | int i => cases ry with
    | int j =>
      simp only [doBin] at h
      split at h
      · rename_i hc
        refine ⟨i, j, rfl, rfl, ?_, post_ok h sr _ (.int _)⟩
        have h1 : j.natAbs < 2 ^ 256 := by
          have := hc.2
          omega
        exact wide_div hc.1 h1 (by decide) (by decide)
      · exact h.elim
    | _ => exact h.elim
  | _ => exact h.elim
theorem op_doMod : OpR X (binaryOp .Mod) (r2 X.K X.mg fun M p q => doBin M .mod p q) := by
  refine opr_imp op_mod ?_
  rintro x y H Q ⟨ρ, M, p, q, sr, rx, ry, h⟩
  have h := h []
  cases rx with
  | int i => cases ry with
    | int j =>
      simp only [doBin] at h
      split at h
      · rename_i hc
        exact ⟨i, j, rfl, rfl, hc, post_ok h sr _ (.int _)⟩
      · exact h.elim
    | _ => exact h.elim
  | _ => exact h.elim
theorem op_doPow : OpR X (binaryOp .Pow) (r2 X.K X.mg fun M p q => doBin M .pow p q) := by
  refine opr_imp op_pow ?_
  rintro x y H Q ⟨ρ, M, p, q, sr, rx, ry, h⟩
  have h := h []
  cases rx with
  | int i => cases ry with
    | int j =>
      simp only [doBin] at h
      split at h
      · rename_i hc
        exact ⟨i, j, rfl, rfl, hc, post_ok h sr _ (.int _)⟩
      · exact h.elim
    | _ => exact h.elim
  | _ => exact h.elim
theorem noErr_bin (M : Store) (o : BOp) (p q : PV) : NoErr (doBin M o p q) := by
  intro x M' e
  unfold doBin at e
  repeat' split at e
  all_goals first | cases e | skip
end
end Wn
end
section
/-! So4: == of things, with what lies within. -/
namespace Wn
open PySem PySem.Spec PyProof.Rows L2
open PySem.SeqAt (EqAt RcAt RcNeAt)

mutual
/-- a value of the heap tells d -/
inductive DR (h : Heap) : DV → Value → Prop
  | non : DR h .non .none
  | bool (b : Bool) : DR h (.int (if b then 1 else 0)) (.bool b)
  | int (i : Int) (t : Tok) : DR h (.int i) (.int i t)
  | str (x : Str) (t : Tok) : DR h (.str x) (.str x t)
  | tup {a : Addr} {us : Array Value} {ds : List DV} : h.IsTuple a us → DRs h ds us.toList → DR h (.tup ds) (.ref a)
  | lst {a : Addr} {us : Array Value} {ds : List DV} : h.IsList a us → DRs h ds us.toList → DR h (.lst ds) (.ref a)
inductive DRs (h : Heap) : List DV → List Value → Prop
  | nil : DRs h [] []
  | cons {d : DV} {u : Value} {ds : List DV} {us : List Value} : DR h d u → DRs h ds us → DRs h (d :: ds) (u :: us)
end
theorem DRs.length {h : Heap} : ∀ {ds : List DV} {us : List Value}, DRs h ds us → ds.length = us.length
  | _, _, .nil => rfl
  | _, _, .cons _ r => by rw [List.length_cons, List.length_cons, DRs.length r]

theorem isTuple_inj {h : Heap} {a : Addr} {us ws : Array Value} (p : h.IsTuple a us) (q : h.IsTuple a ws) : us = ws := by
  obtain ⟨o, h1, h2, n, h3⟩ := p
  obtain ⟨o', g1, g2, n', g3⟩ := q
  rw [h1] at g1; cases g1
  rw [h3] at g3; cases g3
  rfl
theorem isList_inj {h : Heap} {a : Addr} {us ws : Array Value} (p : h.IsList a us) (q : h.IsList a ws) : us = ws := by
  obtain ⟨o, h1, h2, n, h3⟩ := p
  obtain ⟨o', g1, g2, n', g3⟩ := q
  rw [h1] at g1; cases g1
  rw [h3] at g3; cases g3
  rfl
theorem tuple_no_list {h : Heap} {a : Addr} {us ws : Array Value} (p : h.IsTuple a us) (q : h.IsList a ws) : False := by
  obtain ⟨o, h1, h2, n, h3⟩ := p
  obtain ⟨o', g1, g2, n', g3⟩ := q
  rw [h1] at g1; cases g1
  rw [h2] at g2
  exact absurd g2 (by decide)
mutual
theorem DR.inj {h : Heap} : ∀ {d e : DV} {u : Value}, DR h d u → DR h e u → d = e
  | _, _, _, .non, .non => rfl
  | _, _, _, .bool b, .bool _ => rfl
  | _, _, _, .int i t, .int _ _ => rfl
  | _, _, _, .str i t, .str _ _ => rfl
  | _, _, _, .tup p r, .tup q s => by
    have e := isTuple_inj p q
    subst e
    rw [DRs.inj r s]
  | _, _, _, .tup p r, .lst q s => (tuple_no_list p q).elim
  | _, _, _, .lst p r, .tup q s => (tuple_no_list q p).elim
  | _, _, _, .lst p r, .lst q s => by
    have e := isList_inj p q
    subst e
    rw [DRs.inj r s]
theorem DRs.inj {h : Heap} : ∀ {d e : List DV} {u : List Value}, DRs h d u → DRs h e u → d = e
  | _, _, _, .nil, .nil => rfl
  | _, _, _, .cons p r, .cons q s => by rw [DR.inj p q, DRs.inj r s]
end

theorem _root_.PySem.SeqAt.EqAt.to {A : Around} {s : Shared} {u v : Value} {b b' : Bool} (h : EqAt A s u v b) (e : b = b') : EqAt A s u v b' := e ▸ h
theorem _root_.PySem.SeqAt.RcAt.to {A : Around} {s : Shared} {u v : Value} {b b' : Bool} (h : RcAt A s u v b) (e : b = b') : RcAt A s u v b' := e ▸ h
theorem _root_.PySem.SeqAt.RcNeAt.to {A : Around} {s : Shared} {u v : Value} {b b' : Bool} (h : RcNeAt A s u v b) (e : b = b') : RcNeAt A s u v b' := e ▸ h
abbrev at2 (xs ys : List DV) (j : Nat) : Bool := decide (xs.getD j .non = ys.getD j .non)
theorem all_at2 : ∀ xs ys : List DV, ((List.range (min xs.length ys.length)).all (at2 xs ys) && xs.length == ys.length) = decide (xs = ys)
  | [], [] => rfl
  | [], y :: ys => by simp
  | x :: xs, [] => by simp
  | x :: xs, y :: ys => by
    have ih := all_at2 xs ys
    have e1 : min (x :: xs).length (y :: ys).length = min xs.length ys.length + 1 := by simp only [List.length_cons]; omega
    rw [e1, List.range_succ_eq_map, List.all_cons, List.all_map]
    have e2 : (at2 (x :: xs) (y :: ys) ∘ Nat.succ) = at2 xs ys := by funext j; simp [at2]
    have e3 : ((x :: xs).length == (y :: ys).length) = (xs.length == ys.length) := by simp
    rw [e2, e3, Bool.and_assoc, ih]
    by_cases h1 : x = y <;> by_cases h2 : xs = ys <;> simp [at2, h1, h2]
theorem all_same {xs ys : List DV} (h : xs.length = ys.length) : (List.range xs.length).all (at2 xs ys) = decide (xs = ys) := by
  have := all_at2 xs ys
  rw [h, Nat.min_self, beq_self_eq_true, Bool.and_true] at this
  rw [h]; exact this
theorem not_same {xs ys : List DV} (h : xs.length ≠ ys.length) : decide (xs = ys) = false := decide_eq_false fun e => h (by rw [e])

theorem rm_here {u a b : Nat} (h : u + min a b < cLine) : u < cLine := by omega
theorem rm_in {u a b : Nat} (h : u + min (a + 1) (b + 1) < cLine) : u + 1 + min a b < cLine := by omega
theorem rm_head {u a b c d : Nat} (h : u + min (max a b) (max c d) < cLine) : u + min a c < cLine := by omega
theorem rm_tail {u a b c d : Nat} (h : u + min (max a b) (max c d) < cLine) : u + min b d < cLine := by omega
theorem dec_i (a b : Int) : (a == b) = decide (DV.int a = DV.int b) := by by_cases h : a = b <;> simp [h]
theorem dec_s (a b : Str) : (a == b) = decide (DV.str a = DV.str b) := by by_cases h : a = b <;> simp [h]
theorem dec_t (a b : List DV) : decide (a = b) = decide (DV.tup a = DV.tup b) := by by_cases h : a = b <;> simp [h]
theorem dec_l (a b : List DV) : decide (a = b) = decide (DV.lst a = DV.lst b) := by by_cases h : a = b <;> simp [h]
theorem dec_b (a b : Bool) : (a == b) = decide (DV.int (if a then 1 else 0) = DV.int (if b then 1 else 0)) := by cases a <;> cases b <;> rfl
theorem dec_no {a b : DV} (h : a ≠ b) : false = decide (a = b) := (decide_eq_false h).symm

mutual
theorem eqAt_D {A : Around} {s : Shared} : ∀ (x y : DV) (A : Around) (a b : Value), DR s.heap x a → DR s.heap y b → A.units + min x.deep y.deep < cLine → EqAt A s a b (decide (x = y))
  | .non, _, A, _, _, ra, rb, hu => by
    cases ra
    cases rb with
    | non => exact EqAt.same _
    | bool c => exact (EqAt.none_bool _).to (dec_no (fun z => nomatch z))
    | int y u => exact (EqAt.none_int y u).to (dec_no (fun z => nomatch z))
    | str y u => exact (EqAt.none_str y u).to (dec_no (fun z => nomatch z))
    | tup k1 k2 => exact (EqAt.none_tuple k1 (rm_here hu)).to (dec_no (fun z => nomatch z))
    | lst k1 k2 => exact (EqAt.none_list k1 (rm_here hu)).to (dec_no (fun z => nomatch z))
  | .int i, _, A, _, _, ra, rb, hu => by
    cases ra with
    | bool c =>
      cases rb with
      | non => exact (EqAt.bool_none c).to (dec_no (fun z => nomatch z))
      | bool d => exact (EqAt.bool_bool c d).to (dec_b c d)
      | int y u => exact (EqAt.bool_int c y u).to (dec_i _ _)
      | str y u => exact (EqAt.bool_str c y u).to (dec_no (fun z => nomatch z))
      | tup k1 k2 => exact (EqAt.bool_tuple c k1 (rm_here hu)).to (dec_no (fun z => nomatch z))
      | lst k1 k2 => exact (EqAt.bool_list c k1 (rm_here hu)).to (dec_no (fun z => nomatch z))
    | int _ t =>
      cases rb with
      | non => exact (EqAt.int_none i t).to (dec_no (fun z => nomatch z))
      | bool d => exact (EqAt.int_bool i t d).to (dec_i _ _)
      | int y u => exact (EqAt.int_int i t y u).to (dec_i _ _)
      | str y u => exact (EqAt.int_str i t y u).to (dec_no (fun z => nomatch z))
      | tup k1 k2 => exact (EqAt.int_tuple i t k1 (rm_here hu)).to (dec_no (fun z => nomatch z))
      | lst k1 k2 => exact (EqAt.int_list i t k1 (rm_here hu)).to (dec_no (fun z => nomatch z))
  | .str i, _, A, _, _, ra, rb, hu => by
    cases ra with
    | str _ t =>
      cases rb with
      | non => exact (EqAt.str_none i t).to (dec_no (fun z => nomatch z))
      | bool d => exact (EqAt.str_bool i t d).to (dec_no (fun z => nomatch z))
      | int y u => exact (EqAt.str_int i t y u).to (dec_no (fun z => nomatch z))
      | str y u => exact (EqAt.str_str i t y u).to (dec_s _ _)
      | tup k1 k2 => exact (EqAt.str_tuple i t k1 (rm_here hu)).to (dec_no (fun z => nomatch z))
      | lst k1 k2 => exact (EqAt.str_list i t k1 (rm_here hu)).to (dec_no (fun z => nomatch z))
  | .tup xs, _, A, _, _, ra, rb, hu => by
    cases ra with
    | @tup l us _ h1 h2 =>
      cases rb with
      | non => exact (EqAt.tuple_none h1 (rm_here hu)).to (dec_no (fun z => nomatch z))
      | bool d => exact (EqAt.tuple_bool d h1 (rm_here hu)).to (dec_no (fun z => nomatch z))
      | int y u => exact (EqAt.tuple_int y u h1 (rm_here hu)).to (dec_no (fun z => nomatch z))
      | str y u => exact (EqAt.tuple_str y u h1 (rm_here hu)).to (dec_no (fun z => nomatch z))
      | lst k1 k2 => exact (EqAt.tuple_list h1 k1 (rm_here hu)).to (dec_no (fun z => nomatch z))
      | @tup m ws ys k1 k2 =>
        refine EqAt.to ?_ (dec_t xs ys)
        by_cases hlm : l = m
        · subst hlm
          have e := isTuple_inj h1 k1
          subst e
          rw [h2.inj k2]
          exact (EqAt.same _).to (decide_eq_true rfl).symm
        · have n1 : us.size = xs.length := by rw [h2.length]; simp
          have n2 : ws.size = ys.length := by rw [k2.length]; simp
          rw [← all_at2 xs ys, ← n1, ← n2]
          refine EqAt.of_refs hlm (RcAt.tuples h1 k1 (rm_here hu) fun j j1 j2 => ?_)
          have := eqAt_Ds (A := A.in1) xs ys A.in1 us.toList ws.toList h2 k2 (rm_in hu) j (by simpa using j1) (by simpa using j2)
          simpa using this
  | .lst xs, _, A, _, _, ra, rb, hu => by
    cases ra with
    | @lst l us _ h1 h2 =>
      cases rb with
      | non => exact (EqAt.list_none h1 (rm_here hu)).to (dec_no (fun z => nomatch z))
      | bool d => exact (EqAt.list_bool d h1 (rm_here hu)).to (dec_no (fun z => nomatch z))
      | int y u => exact (EqAt.list_int y u h1 (rm_here hu)).to (dec_no (fun z => nomatch z))
      | str y u => exact (EqAt.list_str y u h1 (rm_here hu)).to (dec_no (fun z => nomatch z))
      | tup k1 k2 => exact (EqAt.list_tuple h1 k1 (rm_here hu)).to (dec_no (fun z => nomatch z))
      | @lst m ws ys k1 k2 =>
        refine EqAt.to ?_ (dec_l xs ys)
        by_cases hlm : l = m
        · subst hlm
          have e := isList_inj h1 k1
          subst e
          rw [h2.inj k2]
          exact (EqAt.same _).to (decide_eq_true rfl).symm
        · have n1 : us.size = xs.length := by rw [h2.length]; simp
          have n2 : ws.size = ys.length := by rw [k2.length]; simp
          have he : ∀ j (j1 : j < us.size) (j2 : j < ws.size), EqAt A.in1 s us[j] ws[j] (at2 xs ys j) := fun j j1 j2 => by
            have := eqAt_Ds (A := A.in1) xs ys A.in1 us.toList ws.toList h2 k2 (rm_in hu) j (by simpa using j1) (by simpa using j2)
            simpa using this
          by_cases hsz : us.size = ws.size
          · rw [← all_same (by omega : xs.length = ys.length), ← n1]
            exact EqAt.of_refs hlm (RcAt.lists h1 k1 hsz (rm_here hu) he)
          · rw [not_same (by omega : xs.length ≠ ys.length)]
            exact EqAt.of_refs hlm (RcAt.lists_lengths h1 k1 (by simpa using hsz) (rm_here hu))
theorem eqAt_Ds {A : Around} {s : Shared} : ∀ (xs ys : List DV) (A : Around) (vs ws : List Value), DRs s.heap xs vs → DRs s.heap ys ws → A.units + min (DV.deepL xs) (DV.deepL ys) < cLine →
    ∀ j (h1 : j < vs.length) (h2 : j < ws.length), EqAt A s vs[j] ws[j] (at2 xs ys j)
  | [], _, _, _, _, ra, _, _, j, h1, _ => by cases ra; exact absurd h1 (Nat.not_lt_zero _)
  | _ :: _, [], _, _, _, _, rb, _, j, _, h2 => by cases rb; exact absurd h2 (Nat.not_lt_zero _)
  | x :: xs, y :: ys, A, _, _, ra, rb, hu, j, h1, h2 => by
    cases ra with
    | cons r rs =>
      cases rb with
      | cons r' rs' =>
        cases j with
        | zero => exact eqAt_D (A := A) x y A _ _ r r' (rm_head hu)
        | succ j =>
          have := eqAt_Ds (A := A) xs ys A _ _ rs rs' (rm_tail hu) j (by simpa using h1) (by simpa using h2)
          simpa [at2] using this
end
section
variable {A : Around} {s : Shared} {x y : DV} {a b : Value}
theorem items_at {xs ys : List DV} {us ws : Array Value} (h2 : DRs s.heap xs us.toList) (k2 : DRs s.heap ys ws.toList) (hu : A.units + min (DV.deepL xs + 1) (DV.deepL ys + 1) < cLine) :
    ∀ j (j1 : j < us.size) (j2 : j < ws.size), EqAt A.in1 s us[j] ws[j] (at2 xs ys j) := fun j j1 j2 => by
  have := eqAt_Ds (A := A.in1) xs ys A.in1 us.toList ws.toList h2 k2 (rm_in hu) j (by simpa using j1) (by simpa using j2)
  simpa using this
theorem rcAt_D (ra : DR s.heap x a) (rb : DR s.heap y b) (hu : A.units + min x.deep y.deep < cLine) : RcAt A s a b (decide (x = y)) := by
  cases ra with
  | non =>
    cases rb with
    | non => exact RcAt.none_none
    | bool c => exact (RcAt.none_bool _).to (dec_no (fun z => nomatch z))
    | int y u => exact (RcAt.none_int y u).to (dec_no (fun z => nomatch z))
    | str y u => exact (RcAt.none_str y u).to (dec_no (fun z => nomatch z))
    | tup k1 k2 => exact (RcAt.none_tuple k1 (rm_here hu)).to (dec_no (fun z => nomatch z))
    | lst k1 k2 => exact (RcAt.none_list k1 (rm_here hu)).to (dec_no (fun z => nomatch z))
  | bool c =>
    cases rb with
    | non => exact (RcAt.bool_none c).to (dec_no (fun z => nomatch z))
    | bool d => exact (RcAt.bool_bool c d).to (dec_b c d)
    | int y u => exact (RcAt.bool_int c y u).to (dec_i _ _)
    | str y u => exact (RcAt.bool_str c y u).to (dec_no (fun z => nomatch z))
    | tup k1 k2 => exact (RcAt.bool_tuple c k1 (rm_here hu)).to (dec_no (fun z => nomatch z))
    | lst k1 k2 => exact (RcAt.bool_list c k1 (rm_here hu)).to (dec_no (fun z => nomatch z))
  | int i t =>
    cases rb with
    | non => exact (RcAt.int_none i t).to (dec_no (fun z => nomatch z))
    | bool d => exact (RcAt.int_bool i t d).to (dec_i _ _)
    | int y u => exact (RcAt.int_int i t y u).to (dec_i _ _)
    | str y u => exact (RcAt.int_str i t y u).to (dec_no (fun z => nomatch z))
    | tup k1 k2 => exact (RcAt.int_tuple i t k1 (rm_here hu)).to (dec_no (fun z => nomatch z))
    | lst k1 k2 => exact (RcAt.int_list i t k1 (rm_here hu)).to (dec_no (fun z => nomatch z))
  | str i t =>
    cases rb with
    | non => exact (RcAt.str_none i t).to (dec_no (fun z => nomatch z))
    | bool d => exact (RcAt.str_bool i t d).to (dec_no (fun z => nomatch z))
    | int y u => exact (RcAt.str_int i t y u).to (dec_no (fun z => nomatch z))
    | str y u => exact (RcAt.str_str i t y u).to (dec_s _ _)
    | tup k1 k2 => exact (RcAt.str_tuple i t k1 (rm_here hu)).to (dec_no (fun z => nomatch z))
    | lst k1 k2 => exact (RcAt.str_list i t k1 (rm_here hu)).to (dec_no (fun z => nomatch z))
  | @tup l us xs h1 h2 =>
    cases rb with
    | non => exact (RcAt.tuple_none h1 (rm_here hu)).to (dec_no (fun z => nomatch z))
    | bool d => exact (RcAt.tuple_bool d h1 (rm_here hu)).to (dec_no (fun z => nomatch z))
    | int y u => exact (RcAt.tuple_int y u h1 (rm_here hu)).to (dec_no (fun z => nomatch z))
    | str y u => exact (RcAt.tuple_str y u h1 (rm_here hu)).to (dec_no (fun z => nomatch z))
    | lst k1 k2 => exact (RcAt.tuple_list h1 k1 (rm_here hu)).to (dec_no (fun z => nomatch z))
    | @tup m ws ys k1 k2 =>
      refine RcAt.to ?_ (dec_t xs ys)
      have n1 : us.size = xs.length := by rw [h2.length]; simp
      have n2 : ws.size = ys.length := by rw [k2.length]; simp
      rw [← all_at2 xs ys, ← n1, ← n2]
      exact RcAt.tuples h1 k1 (rm_here hu) (items_at h2 k2 hu)
  | @lst l us xs h1 h2 =>
    cases rb with
    | non => exact (RcAt.list_none h1 (rm_here hu)).to (dec_no (fun z => nomatch z))
    | bool d => exact (RcAt.list_bool d h1 (rm_here hu)).to (dec_no (fun z => nomatch z))
    | int y u => exact (RcAt.list_int y u h1 (rm_here hu)).to (dec_no (fun z => nomatch z))
    | str y u => exact (RcAt.list_str y u h1 (rm_here hu)).to (dec_no (fun z => nomatch z))
    | tup k1 k2 => exact (RcAt.list_tuple h1 k1 (rm_here hu)).to (dec_no (fun z => nomatch z))
    | @lst m ws ys k1 k2 =>
      refine RcAt.to ?_ (dec_l xs ys)
      have n1 : us.size = xs.length := by rw [h2.length]; simp
      have n2 : ws.size = ys.length := by rw [k2.length]; simp
      by_cases hsz : us.size = ws.size
      · rw [← all_same (by omega : xs.length = ys.length), ← n1]
        exact RcAt.lists h1 k1 hsz (rm_here hu) (items_at h2 k2 hu)
      · rw [not_same (by omega : xs.length ≠ ys.length)]
        exact RcAt.lists_lengths h1 k1 (by simpa using hsz) (rm_here hu)
theorem nd_no {a b : DV} (h : a ≠ b) : true = !decide (a = b) := by rw [decide_eq_false h]; rfl
theorem rcNeAt_D (ra : DR s.heap x a) (rb : DR s.heap y b) (hu : A.units + min x.deep y.deep < cLine) : RcNeAt A s a b (!decide (x = y)) := by
  cases ra with
  | non =>
    cases rb with
    | non => exact RcNeAt.none_none
    | bool c => exact (RcNeAt.none_bool _).to (nd_no (fun z => nomatch z))
    | int y u => exact (RcNeAt.none_int y u).to (nd_no (fun z => nomatch z))
    | str y u => exact (RcNeAt.none_str y u).to (nd_no (fun z => nomatch z))
    | tup k1 k2 => exact (RcNeAt.none_tuple k1 (rm_here hu)).to (nd_no (fun z => nomatch z))
    | lst k1 k2 => exact (RcNeAt.none_list k1 (rm_here hu)).to (nd_no (fun z => nomatch z))
  | bool c =>
    cases rb with
    | non => exact (RcNeAt.bool_none c).to (nd_no (fun z => nomatch z))
    | bool d => exact (RcNeAt.bool_bool c d).to (by rw [← dec_b])
    | int y u => exact (RcNeAt.bool_int c y u).to (by rw [← dec_i])
    | str y u => exact (RcNeAt.bool_str c y u).to (nd_no (fun z => nomatch z))
    | tup k1 k2 => exact (RcNeAt.bool_tuple c k1 (rm_here hu)).to (nd_no (fun z => nomatch z))
    | lst k1 k2 => exact (RcNeAt.bool_list c k1 (rm_here hu)).to (nd_no (fun z => nomatch z))
  | int i t =>
    cases rb with
    | non => exact (RcNeAt.int_none i t).to (nd_no (fun z => nomatch z))
    | bool d => exact (RcNeAt.int_bool i t d).to (by rw [← dec_i])
    | int y u => exact (RcNeAt.int_int i t y u).to (by rw [← dec_i])
    | str y u => exact (RcNeAt.int_str i t y u).to (nd_no (fun z => nomatch z))
    | tup k1 k2 => exact (RcNeAt.int_tuple i t k1 (rm_here hu)).to (nd_no (fun z => nomatch z))
    | lst k1 k2 => exact (RcNeAt.int_list i t k1 (rm_here hu)).to (nd_no (fun z => nomatch z))
  | str i t =>
    cases rb with
    | non => exact (RcNeAt.str_none i t).to (nd_no (fun z => nomatch z))
    | bool d => exact (RcNeAt.str_bool i t d).to (nd_no (fun z => nomatch z))
    | int y u => exact (RcNeAt.str_int i t y u).to (nd_no (fun z => nomatch z))
    | str y u => exact (RcNeAt.str_str i t y u).to (by rw [← dec_s])
    | tup k1 k2 => exact (RcNeAt.str_tuple i t k1 (rm_here hu)).to (nd_no (fun z => nomatch z))
    | lst k1 k2 => exact (RcNeAt.str_list i t k1 (rm_here hu)).to (nd_no (fun z => nomatch z))
  | @tup l us xs h1 h2 =>
    cases rb with
    | non => exact (RcNeAt.tuple_none h1 (rm_here hu)).to (nd_no (fun z => nomatch z))
    | bool d => exact (RcNeAt.tuple_bool d h1 (rm_here hu)).to (nd_no (fun z => nomatch z))
    | int y u => exact (RcNeAt.tuple_int y u h1 (rm_here hu)).to (nd_no (fun z => nomatch z))
    | str y u => exact (RcNeAt.tuple_str y u h1 (rm_here hu)).to (nd_no (fun z => nomatch z))
    | lst k1 k2 => exact (RcNeAt.tuple_list h1 k1 (rm_here hu)).to (nd_no (fun z => nomatch z))
    | @tup m ws ys k1 k2 =>
      rw [← dec_t]
      have n1 : us.size = xs.length := by rw [h2.length]; simp
      have n2 : ws.size = ys.length := by rw [k2.length]; simp
      rw [← all_at2 xs ys, ← n1, ← n2]
      exact RcNeAt.tuples h1 k1 (rm_here hu) (items_at h2 k2 hu)
  | @lst l us xs h1 h2 =>
    cases rb with
    | non => exact (RcNeAt.list_none h1 (rm_here hu)).to (nd_no (fun z => nomatch z))
    | bool d => exact (RcNeAt.list_bool d h1 (rm_here hu)).to (nd_no (fun z => nomatch z))
    | int y u => exact (RcNeAt.list_int y u h1 (rm_here hu)).to (nd_no (fun z => nomatch z))
    | str y u => exact (RcNeAt.list_str y u h1 (rm_here hu)).to (nd_no (fun z => nomatch z))
    | tup k1 k2 => exact (RcNeAt.list_tuple h1 k1 (rm_here hu)).to (nd_no (fun z => nomatch z))
    | @lst m ws ys k1 k2 =>
      rw [← dec_l]
      have n1 : us.size = xs.length := by rw [h2.length]; simp
      have n2 : ws.size = ys.length := by rw [k2.length]; simp
      by_cases hsz : us.size = ws.size
      · rw [← all_same (by omega : xs.length = ys.length), ← n1]
        exact RcNeAt.lists h1 k1 hsz (rm_here hu) (items_at h2 k2 hu)
      · rw [not_same (by omega : xs.length ≠ ys.length)]
        exact RcNeAt.lists_lengths h1 k1 (by simpa using hsz) (rm_here hu)
end
end Wn
end
section
/-! So5: comparisons of values. -/
namespace Wn
open PySem PySem.Spec PyProof.Rows L2
open PySem.SeqAt (EqAt RcAt RcNeAt)

section
variable {X : Cx} {pins : List (Addr × Obj)} {σ : L2.St} {H : Hp} {s : Shared} {ρ : List Addr} {M : Store}
mutual
theorem rdW_DR (I : Inv X pins σ H s) {f : Nat → Option DV} (hf : ∀ n a d, ρ[n]? = some a → f n = some d → DR s.heap d (.ref a)) : ∀ {p : PV} {v : V}, RP X.K H ρ p v → ∀ {u : Value} {d : DV}, RelV v u → rdW f p = some d → DR s.heap d u
  | _, _, .non, u, d, r, e => by cases r; cases e; exact .non
  | _, _, .bl b, u, d, r, e => by cases r; cases e; exact .bool b
  | _, _, .int i, u, d, r, e => by obtain ⟨t, rfl⟩ := r; cases e; exact .int i t
  | _, _, .str x, u, d, r, e => by obtain ⟨t, rfl⟩ := r; cases e; exact .str x t
  | _, _, .tup h rs, u, d, r, e => by
    cases r
    obtain ⟨its, rv, ht, _⟩ := I.tuple h
    simp only [rdW, Option.map_eq_some_iff] at e
    obtain ⟨ds, e1, rfl⟩ := e
    exact .tup ht (rdW_DRs I hf rs rv e1)
  | _, _, .loc h, u, d, r, e => by
    cases r
    exact hf _ _ _ h e
  | _, _, .fl h, u, d, r, e => by cases e
theorem rdW_DRs (I : Inv X pins σ H s) {f : Nat → Option DV} (hf : ∀ n a d, ρ[n]? = some a → f n = some d → DR s.heap d (.ref a)) : ∀ {ps : List PV} {vs : List V}, RPs X.K H ρ ps vs → ∀ {us : List Value} {ds : List DV}, Vals vs us → rdW.rdL f ps = some ds → DRs s.heap ds us
  | _, _, .nil, us, ds, r, e => by
    cases r
    simp only [rdW.rdL] at e
    cases e
    exact .nil
  | _, _, .cons h rs, us, ds, r, e => by
    cases r with
    | cons r1 r2 =>
      simp only [rdW.rdL, Option.bind_eq_some_iff, Option.map_eq_some_iff] at e
      obtain ⟨d, e1, ds', e2, rfl⟩ := e
      exact .cons (rdW_DR I hf h r1 e1) (rdW_DRs I hf rs r2 e2)
end
theorem mapM_DRs (I : Inv X pins σ H s) {g : PV → Option DV} : ∀ {ps : List PV} {vs : List V}, RPs X.K H ρ ps vs → (∀ {p : PV} {v : V}, RP X.K H ρ p v → ∀ {u : Value} {d : DV}, RelV v u → g p = some d → DR s.heap d u) →
    ∀ {us : List Value} {ds : List DV}, Vals vs us → ps.mapM g = some ds → DRs s.heap ds us
  | _, _, .nil, _, us, ds, r, e => by
    cases r
    simp at e
    subst e
    exact .nil
  | _, _, .cons h rs, hg, us, ds, r, e => by
    cases r with
    | cons r1 r2 =>
      simp only [List.mapM_cons, Option.bind_eq_bind, Option.bind_eq_some_iff, Option.pure_def, Option.some.injEq] at e
      obtain ⟨d, e1, ds', e2, rfl⟩ := e
      exact .cons (hg h r1 e1) (mapM_DRs I rs hg r2 e2)
theorem rdM_DR (I : Inv X pins σ H s) (S : SR X.K X.mg H ρ M) : ∀ (k : Nat) {p : PV} {v : V}, RP X.K H ρ p v → ∀ {u : Value} {d : DV}, RelV v u → rdM M k p = some d → DR s.heap d u
  | 0, p, v, h, u, d, r, e => rdW_DR I (fun _ _ _ _ z => by cases z) h r e
  | k + 1, p, v, h, u, d, r, e => by
    refine rdW_DR I (fun n a d hn hd => ?_) h r e
    split at hd
    · rename_i xs hm
      obtain ⟨vs, e1, r1⟩ := S.lst hn hm
      simp only [Option.map_eq_some_iff] at hd
      obtain ⟨ds, h1, rfl⟩ := hd
      obtain ⟨its, rv, ⟨o, n', ho, hc, _, hd⟩, _⟩ := I.list (SqL.of e1)
      exact .lst ⟨o, ho, hc, n', hd⟩ (mapM_DRs I r1 (fun hp _ _ hr he => rdM_DR I S k hp hr he) rv h1)
    · cases hd
end

section
variable {X : Cx}
theorem doEq_inv {M : Store} {p q : PV} {b : Bool} (h : doEq M p q = some b) : ∃ d e, rdM M 3 p = some d ∧ rdM M 3 q = some e ∧ min d.deep e.deep ≤ 190 ∧ b = decide (d = e) := by
  unfold doEq at h
  split at h
  · rename_i d e h1 h2
    split at h
    · cases h
      exact ⟨d, e, h1, h2, ‹_›, rfl⟩
    · cases h
  · cases h
theorem post_B {W : EW} {σ : L2.St} {H : Hp} {ρ : List Addr} {M : Store} {o : Option Bool} {Q : VK} (S : SR X.K X.mg H ρ M) (h : post X.K X.mg W σ H ρ (liftB M o) (gE X.K Q)) : ∃ b, o = some b ∧ Q (.bl b) H := by
  cases o with
  | none => exact h.elim
  | some b => exact ⟨b, rfl, post_ok h S _ (.bl b)⟩
theorem bl_end {pins : List (Addr × Obj)} {σ : L2.St} {H : Hp} {s : Shared} {Q : VK} {b : Bool} (I : Inv X pins σ H s) (q : Q (.bl b) H) : EP X pins σ Q (.bool b) s := ⟨.bl b, H, I, rfl, q⟩
abbrev rC (X : Cx) (o : COp) : R2 := r2 X.K X.mg fun M p q => liftB M (doCmp M o p q)
theorem op_doEq (hu : X.A.units + 200 < cLine) : OpR X (compareOp .Eq) (rC X .eq) := by
  rintro pins s σ H x y v u Q I rx ry ⟨ρ, M, p, q, sr, hx, hy, h⟩
  obtain ⟨b, hb, hq⟩ := post_B sr (h [])
  obtain ⟨d, e, h1, h2, h3, rfl⟩ := doEq_inv hb
  exact rcAt_D (rdM_DR I sr 3 hx rx h1) (rdM_DR I sr 3 hy ry h2) (by omega) X.prog X.w X.xe _ (bl_end I hq)
theorem op_doNe (hu : X.A.units + 200 < cLine) : OpR X (compareOp .NotEq) (rC X .ne) := by
  rintro pins s σ H x y v u Q I rx ry ⟨ρ, M, p, q, sr, hx, hy, h⟩
  obtain ⟨b, hb, hq⟩ := post_B sr (h [])
  simp only [doCmp, Option.map_eq_some_iff] at hb
  obtain ⟨c, hc, rfl⟩ := hb
  obtain ⟨d, e, h1, h2, h3, rfl⟩ := doEq_inv hc
  exact rcNeAt_D (rdM_DR I sr 3 hx rx h1) (rdM_DR I sr 3 hy ry h2) (by omega) X.prog X.w X.xe _ (bl_end I hq)
theorem op_int {op : CmpOp} {o : COp} {f : Int → Int → Bool} (ho : OpR X (compareOp op) (rI0 fun i j => .bl (f i j))) (hf : ∀ M i j, doCmp M o (.int i) (.int j) = some (f i j))
    (hn : ∀ M p q, (∀ i j, ¬ (p = .int i ∧ q = .int j)) → doCmp M o p q = none) : OpR X (compareOp op) (rC X o) := by
  refine opr_imp ho ?_
  rintro x y H Q ⟨ρ, M, p, q, sr, hx, hy, h⟩
  obtain ⟨b, hb, hq⟩ := post_B sr (h [])
  have no : ∀ {α : Prop}, (∀ i j, ¬ (p = .int i ∧ q = .int j)) → α := fun z => by rw [hn M p q z] at hb; cases hb
  cases hx with
  | int i => cases hy with
    | int j => rw [hf] at hb; cases hb; exact ⟨i, j, rfl, rfl, hq⟩
    | _ => exact no (fun i j z => by cases z.2)
  | _ => exact no (fun i j z => by cases z.1)
theorem op_doLt : OpR X (compareOp .Lt) (rC X .lt) := op_int op_lt (fun _ _ _ => rfl) fun M p q h => by
  unfold doCmp; split <;> first | rfl | (exact absurd ⟨rfl, rfl⟩ (h _ _)) | (rename_i z; cases z)
theorem op_doLe : OpR X (compareOp .LtE) (rC X .le) := op_int op_le (fun _ _ _ => rfl) fun M p q h => by
  unfold doCmp; split <;> first | rfl | (exact absurd ⟨rfl, rfl⟩ (h _ _)) | (rename_i z; cases z)
theorem op_doGt : OpR X (compareOp .Gt) (rC X .gt) := op_int op_gt (fun _ _ _ => rfl) fun M p q h => by
  unfold doCmp; split <;> first | rfl | (exact absurd ⟨rfl, rfl⟩ (h _ _)) | (rename_i z; cases z)
theorem op_doGe : OpR X (compareOp .GtE) (rC X .ge) := op_int op_ge (fun _ _ _ => rfl) fun M p q h => by
  unfold doCmp; split <;> first | rfl | (exact absurd ⟨rfl, rfl⟩ (h _ _)) | (rename_i z; cases z)
/-! ### is -/
theorem doIs_inv {p q : PV} {b : Bool} (h : doIs p q = some b) : (q = .non ∧ b = decide (p = .non)) ∨ ∃ a c, p = .bl a ∧ q = .bl c ∧ b = decide (a = c) := by
  unfold doIs at h
  split at h
  · cases h; exact Or.inl ⟨rfl, rfl⟩
  · cases h; exact Or.inr ⟨_, _, rfl, rfl, rfl⟩
  · cases h
theorem non_iff {K : PySem.W.Frag} {H : Hp} {ρ : List Addr} {p : PV} {v : V} (h : RP K H ρ p v) : decide (p = .non) = decide (v = .non) := by cases h <;> rfl
theorem op_doIs : OpR X (compareOp .Is) (rC X .is_) := by
  refine opr_imp (op_isN.or op_isBl) ?_
  rintro x y H Q ⟨ρ, M, p, q, sr, hx, hy, h⟩
  obtain ⟨b, hb, hq⟩ := post_B sr (h [])
  rcases doIs_inv hb with ⟨rfl, rfl⟩ | ⟨a, c, rfl, rfl, rfl⟩
  · cases hy
    rw [non_iff hx] at hq
    exact Or.inl ⟨rfl, hq⟩
  · cases hx; cases hy
    exact Or.inr ⟨a, c, rfl, rfl, hq⟩
theorem op_doIsnot : OpR X (compareOp .IsNot) (rC X .isnot) := by
  refine opr_imp (op_notN.or op_notBl) ?_
  rintro x y H Q ⟨ρ, M, p, q, sr, hx, hy, h⟩
  obtain ⟨b, hb, hq⟩ := post_B sr (h [])
  simp only [doCmp, Option.map_eq_some_iff] at hb
  obtain ⟨k, hk, rfl⟩ := hb
  rcases doIs_inv hk with ⟨rfl, rfl⟩ | ⟨a, c, rfl, rfl, rfl⟩
  · cases hy
    rw [non_iff hx] at hq
    exact Or.inl ⟨rfl, hq⟩
  · cases hx; cases hy
    exact Or.inr ⟨a, c, rfl, rfl, hq⟩
/-! ### in -/
theorem anyEq_inv {M : Store} {x : PV} : ∀ {ys : List PV} {b : Bool}, anyEq M x ys = some b → (ys = [] ∧ b = false) ∨ ∃ e, rdM M 3 x = some e ∧ ∃ ds : List DV, ds.length = ys.length ∧ (∀ (i : Nat) (d : DV), ds[i]? = some d → ∃ y, ys[i]? = some y ∧ rdM M 3 y = some d ∧ min d.deep e.deep ≤ 190) ∧ b = ds.any fun d => decide (d = e)
  | [], b, h => by simp only [anyEq] at h; cases h; exact Or.inl ⟨rfl, rfl⟩
  | y :: ys, b, h => by
    simp only [anyEq] at h
    split at h
    · rename_i b1 c1 h1 h2
      cases h
      obtain ⟨d, e, k1, k2, k3, rfl⟩ := doEq_inv h1
      refine Or.inr ⟨e, k2, ?_⟩
      rcases anyEq_inv h2 with ⟨rfl, rfl⟩ | ⟨e', q1, ds, q2, q3, rfl⟩
      · refine ⟨[d], rfl, fun i d' hd => ?_, by simp⟩
        cases i with
        | zero => simp at hd; subst hd; exact ⟨y, rfl, k1, k3⟩
        | succ i => simp at hd
      · rw [k2] at q1; cases q1
        refine ⟨d :: ds, by simp [q2], fun i d' hd => ?_, by simp⟩
        cases i with
        | zero => simp at hd; subst hd; exact ⟨y, rfl, k1, k3⟩
        | succ i => simp only [List.getElem?_cons_succ] at hd ⊢; exact q3 i d' hd
    · cases h
open Classical in
theorem any_DR {h : Heap} {e : DV} : ∀ {ds : List DV} {us : List Value}, DRs h ds us → us.any (fun u => decide (DR h e u)) = ds.any fun d => decide (d = e)
  | _, _, .nil => rfl
  | _, _, .cons (d := d) r rs => by
    rw [List.any_cons, List.any_cons, any_DR rs]
    congr 1
    by_cases hd : d = e
    · rw [decide_eq_true hd]; subst hd; exact decide_eq_true r
    · rw [decide_eq_false hd]; exact decide_eq_false fun z => hd (r.inj z)
theorem DRs.mem {h : Heap} : ∀ {ds : List DV} {us : List Value}, DRs h ds us → ∀ {u : Value}, u ∈ us → ∃ (i : Nat) (d : DV), ds[i]? = some d ∧ DR h d u
  | _, _, .cons r rs, u, hu => by
    rcases List.mem_cons.mp hu with rfl | hu
    · exact ⟨0, _, rfl, r⟩
    · obtain ⟨i, d, h1, h2⟩ := DRs.mem rs hu
      exact ⟨i + 1, d, by simpa using h1, h2⟩
theorem drs_of {X : Cx} {pins : List (Addr × Obj)} {σ : L2.St} {H : Hp} {s : Shared} {ρ : List Addr} {M : Store} (I : Inv X pins σ H s) (S : SR X.K X.mg H ρ M) : ∀ {ds : List DV} {ys : List PV} {vs : List V} {us : List Value}, RPs X.K H ρ ys vs → Vals vs us →
    ds.length = ys.length → (∀ (i : Nat) (d : DV), ds[i]? = some d → ∃ y, ys[i]? = some y ∧ rdM M 3 y = some d) → DRs s.heap ds us
  | [], _, _, _, .nil, r, _, _ => by cases r; exact .nil
  | [], _, _, _, .cons _ _, r, hl, _ => by simp at hl
  | d :: ds, _, _, _, .nil, r, hl, _ => by simp at hl
  | d :: ds, _, _, _, .cons h rs, r, hl, hg => by
    cases r with
    | cons r1 r2 =>
      obtain ⟨y, h1, h2⟩ := hg 0 d rfl
      simp at h1; subst h1
      exact .cons (rdM_DR I S 3 h r1 h2) (drs_of I S rs r2 (by simpa using hl) fun i d' hd => by
        have := hg (i + 1) d' (by simpa using hd)
        simpa using this)
open Classical in
theorem in_seq {pins : List (Addr × Obj)} {σ : L2.St} {H : Hp} {s : Shared} {ρ : List Addr} {M : Store} {p : PV} {ys : List PV} {x : V} {vs : List V} {v : Value} {its : List Value} {b : Bool} {A : Around} (hu : A.units + 200 < cLine) (I : Inv X pins σ H s) (S : SR X.K X.mg H ρ M)
    (hx : RP X.K H ρ p x) (rx : RelV x v) (hy : RPs X.K H ρ ys vs) (rv : Vals vs its) (h : anyEq M p ys = some b) : ∃ e : Value → Bool, its.any e = b ∧ ∀ u ∈ its, EqAt A.in1 s u v (e u) := by
  rcases anyEq_inv h with ⟨rfl, rfl⟩ | ⟨e, h1, ds, h2, h3, rfl⟩
  · cases hy
    cases rv
    exact ⟨fun _ => false, rfl, fun _ z => nomatch z⟩
  · have D := drs_of I S hy rv h2 fun i d hd => by obtain ⟨y, a, b, _⟩ := h3 i d hd; exact ⟨y, a, b⟩
    refine ⟨fun u => decide (DR s.heap e u), any_DR D, fun u hu' => ?_⟩
    obtain ⟨i, d, k1, k2⟩ := D.mem hu'
    obtain ⟨y, _, _, k3⟩ := h3 i d k1
    have q := eqAt_D (A := A.in1) (s := s) d e A.in1 u v k2 (rdM_DR I S 3 hx rx h1) (by show A.units + 1 + _ < cLine; omega)
    refine q.to ?_
    by_cases hd : d = e
    · rw [decide_eq_true hd]; subst hd; exact (decide_eq_true k2).symm
    · rw [decide_eq_false hd]; exact (decide_eq_false fun z => hd (k2.inj z)).symm
theorem hasSign_inv {x y : Str} {b : Bool} (h : hasSign x y = some b) : ∃ c, x = ⟨#[c]⟩ ∧ b = decide (c ∈ y.cps.toList) := by
  unfold hasSign at h
  split at h
  · rename_i hs
    cases h
    obtain ⟨⟨l⟩⟩ := x
    match l, hs with
    | [c], _ => exact ⟨c, rfl, rfl⟩
  · cases h
theorem dic_any {K : PySem.W.Frag} {H : Hp} {ρ : List Addr} {k : PV} {q : Key} (hk : keyOf k = some q) : ∀ {kvs : List (PV × PV)} {us : List (Key × V)}, RKV K H ρ kvs us → (kvs.any fun p => decide (p.1 = k)) = (valV us q).isSome
  | _, _, .nil => rfl
  | _, _, .cons (k := a) (q := c) ka _ r => by
    rw [List.any_cons, dic_any hk r]
    by_cases hac : a = k
    · subst hac
      rw [ka] at hk; cases hk
      rw [valV_pos rfl]; simp
    · have hcq : ¬ c = q := by
        intro z; subst z
        apply hac
        cases a <;> first | (cases ka; done) | skip
        all_goals (cases k <;> first | (cases hk; done) | skip)
        all_goals simp only [keyOf, Option.some.injEq] at ka hk
        all_goals (rw [← hk] at ka; cases ka; try rfl)
      rw [valV_neg hcq]; simp [hac]
theorem key_rel {K : PySem.W.Frag} {H : Hp} {ρ : List Addr} {p : PV} {x : V} (h : RP K H ρ p x) (hk : isKey p = true) : ∃ q, keyOf p = some q ∧ x = kV q := by
  cases h with
  | int i => exact ⟨.inl i, rfl, rfl⟩
  | str i => exact ⟨.inr i, rfl, rfl⟩
  | _ => cases hk
theorem op_doIn (hu : X.A.units + 200 < cLine) : OpR X (compareOp .In) (rC X .isin) := by
  rintro pins s σ H x y v u Q I rx ry ⟨ρ, M, p, q, sr, hx, hy, h⟩
  obtain ⟨b, hb, hq⟩ := post_B sr (h [])
  simp only [doCmp] at hb
  cases hy with
  | str z =>
    cases hx with
    | str w =>
      obtain ⟨c, rfl, rfl⟩ := hasSign_inv hb
      exact op_in_sign pins s σ H _ _ v u Q I rx ry ⟨c, z, rfl, rfl, hq⟩
    | _ => cases hb
  | @tup a vs ys ha ra =>
    cases ry
    obtain ⟨its, rv, ht, _⟩ := I.tuple ha
    obtain ⟨e, he, hg⟩ := in_seq hu I sr hx rx ra rv hb
    refine SeqAt.in_tupleAt e ht (fun y hy => hg y (by simpa using hy)) ?_
    rw [show its.toArray.any e = b by simpa using he]
    exact bl_end I hq
  | @loc n a ha =>
    cases ry
    simp only [doIn] at hb
    split at hb
    · rename_i ys hm
      obtain ⟨vs, e1, r1⟩ := sr.lst ha hm
      obtain ⟨its, rv, ⟨o, n', ho, hc, _, hd⟩, _⟩ := I.list (SqL.of e1)
      obtain ⟨e, he, hg⟩ := in_seq hu I sr hx rx r1 rv hb
      refine SeqAt.in_listAt e ⟨o, ho, hc, n', hd⟩ (fun y hy => hg y (by simpa using hy)) ?_
      rw [show its.toArray.any e = b by simpa using he]
      exact bl_end I hq
    · rename_i kvs hm
      obtain ⟨us, e1, r1⟩ := sr.dic ha hm
      split at hb
      · rename_i hk
        cases hb
        obtain ⟨k, hk1, rfl⟩ := key_rel hx hk
        rw [dic_any hk1 r1] at hq
        exact d_in (by omega) I (DGet.k e1) rx fun s' I' => bl_end I' hq
      · cases hb
    · cases hb
  | _ => cases hb
theorem op_doNotin (hu : X.A.units + 200 < cLine) : OpR X (compareOp .NotIn) (rC X .notin) := by
  rintro pins s σ H x y v u Q I rx ry ⟨ρ, M, p, q, sr, hx, hy, h⟩
  obtain ⟨b', hb', hq⟩ := post_B sr (h [])
  simp only [doCmp, Option.map_eq_some_iff] at hb'
  obtain ⟨b, hb, rfl⟩ := hb'
  cases hy with
  | str z =>
    cases hx with
    | str w =>
      obtain ⟨c, rfl, rfl⟩ := hasSign_inv hb
      exact op_notIn_sign pins s σ H _ _ v u Q I rx ry ⟨c, z, rfl, rfl, hq⟩
    | _ => cases hb
  | @tup a vs ys ha ra =>
    cases ry
    obtain ⟨its, rv, ht, _⟩ := I.tuple ha
    obtain ⟨e, he, hg⟩ := in_seq hu I sr hx rx ra rv hb
    refine SeqAt.notIn_tupleAt e ht (fun y hy => hg y (by simpa using hy)) ?_
    rw [show its.toArray.any e = b by simpa using he]
    exact bl_end I hq
  | @loc n a ha =>
    cases ry
    simp only [doIn] at hb
    split at hb
    · rename_i ys hm
      obtain ⟨vs, e1, r1⟩ := sr.lst ha hm
      obtain ⟨its, rv, ⟨o, n', ho, hc, _, hd⟩, _⟩ := I.list (SqL.of e1)
      obtain ⟨e, he, hg⟩ := in_seq hu I sr hx rx r1 rv hb
      refine SeqAt.notIn_listAt e ⟨o, ho, hc, n', hd⟩ (fun y hy => hg y (by simpa using hy)) ?_
      rw [show its.toArray.any e = b by simpa using he]
      exact bl_end I hq
    · rename_i kvs hm
      obtain ⟨us, e1, r1⟩ := sr.dic ha hm
      split at hb
      · rename_i hk
        cases hb
        obtain ⟨k, hk1, rfl⟩ := key_rel hx hk
        rw [dic_any hk1 r1] at hq
        exact d_notIn (by omega) I (DGet.k e1) rx fun s' I' => bl_end I' hq
      · cases hb
    · cases hb
  | _ => cases hb
end
end Wn
end
section
/-! So6: expressions. -/
namespace Wn
open PySem PySem.Spec PyProof.Rows L2

section
variable {X : Cx} {W : EW} {a b d : Expr} {ea eb ed : Ex} {c : Ctx} {pos : Pos}
abbrev SE (X : Cx) (W : EW) (c : Ctx) (e : Expr) (m : Ex) : Prop := PE X e (tE X.K X.mg W (evE c m))
abbrev ST (X : Cx) (W : EW) (c : Ctx) (e : Expr) (m : Ex) : Prop := PT X e (tT X.K X.mg W (evT c m))
abbrev SA (X : Cx) (W : EW) (c : Ctx) (es : List Expr) (ms : Exs) : Prop := PA X es (tA X.K X.mg W (evEs c ms))
abbrev SO (X : Cx) (W : EW) (c : Ctx) (e : Option Expr) (m : Ox) : Prop := PO X e (tO X.K X.mg W (evO c m))

theorem noErr_liftB (M : Store) (o : Option Bool) : NoErr (liftB M o) := by
  intro x M' e
  cases o <;> cases e
theorem noErr_lift {α : Type} (M : Store) (o : Option α) : NoErr (lift M o) := by
  intro x M' e
  cases o <;> cases e
/-! ### comparisons -/
theorem e_cmp {op : CmpOp} {o : COp} (ho : OpR X (compareOp op) (rC X o)) (ha : SE X W c a ea) (hb : SE X W c b eb) (hm : behindInMarks op b = false) : SE X W c (.Compare a [op] [b] pos) (.cmp o ea eb) :=
  pe_imp (pe_cmpR ho ha hb hm) fun σ H Q h =>
    two (ra := evE c ea) (rb := evE c eb) (f := fun x y M2 => liftB M2 (doCmp M2 o x y)) h fun ρ H E M p q x y er sr rx ry h => ⟨ρ, M, p, q, sr, rx, ry, fun σ' => post_no (noErr_liftB _ _) h⟩
theorem t_cmp {op : CmpOp} {o : COp} (ho : OpR X (compareOp op) (rC X o)) (ha : SE X W c a ea) (hb : SE X W c b eb) (hm : behindInMarks op b = false) : ST X W c (.Compare a [op] [b] pos) (.cmp o ea eb) :=
  pt_imp (pt_cmpR ho ha hb hm) fun σ H Q h => by
    obtain ⟨ρ, E, M, er, sr, h⟩ := h
    refine ⟨ρ, E, M, er, sr, post_imp (post_bind h) fun ρ1 H1 x M1 e1 s1 h1 v1 r1 => ?_⟩
    have er1 := er.ext sr.mv e1
    refine ⟨ρ1, E, M1, er1, s1, post_imp (post_bind h1) fun ρ2 H2 y M2 e2 s2 h2 v2 r2 => ?_⟩
    refine ⟨ρ2, M2, x, y, s2, r1.ext s1.mv e2, r2, fun σ' => ?_⟩
    obtain ⟨k, hk, h3⟩ := post_lift h2
    show post X.K X.mg EW.no σ' H2 ρ2 (liftB M2 (doCmp M2 o x y)) _
    rw [hk]
    intro ρ3 H3 e3 s3 v3 r3
    cases r3
    exact ⟨k, rfl, h3 ρ3 H3 e3 s3⟩

theorem t_chain {op op' : CmpOp} {o p : COp} (ho : OpR X (compareOp op) (rC X o)) (hp : OpR X (compareOp op') (rC X p)) (ha : SE X W c a ea) (hb : SE X W c b eb) (hd : SE X W c d ed) (hm : lastMarks [op, op'] [b, d] = false) :
    ST X W c (.Compare a [op, op'] [b, d] pos) (.chain o p ea eb ed) :=
  pt_imp (pt_chain ho hp ha hb hd hm) fun σ H Q h => by
    obtain ⟨ρ, E, M, er, sr, h⟩ := h
    refine ⟨ρ, E, M, er, sr, post_imp (post_bind h) fun ρ1 H1 x M1 e1 s1 h1 v1 r1 => ?_⟩
    have er1 := er.ext sr.mv e1
    refine ⟨ρ1, E, M1, er1, s1, post_imp (post_bind h1) fun ρ2 H2 y M2 e2 s2 h2 v2 r2 => ?_⟩
    have er2 := er1.ext s1.mv e2
    refine ⟨ρ2, M2, x, y, s2, r1.ext s1.mv e2, r2, fun σ' => ?_⟩
    obtain ⟨k, hk, h3⟩ := post_lift (post_bind h2)
    show post X.K X.mg EW.no σ' H2 ρ2 (liftB M2 (doCmp M2 o x y)) _
    rw [hk]
    intro ρ3 H3 e3 s3 v3 r3
    cases r3
    refine ⟨k, rfl, ?_⟩
    have h4 := h3 ρ3 H3 e3 s3
    cases k with
    | false => exact iteF ⟨false, rfl, post_ok h4 s3⟩
    | true =>
      refine iteT ⟨ρ3, E, M2, er2.ext s2.mv e3, s3, post_imp (post_bind h4) fun ρ4 H4 z M4 e4 s4 h5 v4 r4 => ?_⟩
      refine ⟨ρ4, M4, y, z, s4, (r2.ext s2.mv e3).ext s3.mv e4, r4, fun σ'' => ?_⟩
      obtain ⟨k', hk', h6⟩ := post_lift h5
      show post X.K X.mg EW.no σ'' H4 ρ4 (liftB M4 (doCmp M4 p y z)) _
      rw [hk']
      intro ρ5 H5 e5 s5 v5 r5
      cases r5
      exact ⟨k', rfl, h6 ρ5 H5 e5 s5⟩
theorem e_chain {op op' : CmpOp} {o p : COp} (ho : OpR X (compareOp op) (rC X o)) (hp : OpR X (compareOp op') (rC X p)) (ha : SE X W c a ea) (hb : SE X W c b eb) (hd : SE X W c d ed) (hm : lastMarks [op, op'] [b, d] = false) :
    SE X W c (.Compare a [op, op'] [b, d] pos) (.chain o p ea eb ed) :=
  pe_imp (pe_chain ho hp ha hb hd hm) fun σ H Q h => by
    obtain ⟨ρ, E, M, er, sr, h⟩ := h
    refine ⟨ρ, E, M, er, sr, post_imp (post_bind h) fun ρ1 H1 x M1 e1 s1 h1 v1 r1 => ?_⟩
    have er1 := er.ext sr.mv e1
    refine ⟨ρ1, E, M1, er1, s1, post_imp (post_bind h1) fun ρ2 H2 y M2 e2 s2 h2 v2 r2 => ?_⟩
    have er2 := er1.ext s1.mv e2
    refine ⟨ρ2, M2, x, y, s2, r1.ext s1.mv e2, r2, fun σ' => ?_⟩
    obtain ⟨k, hk, h3⟩ := post_lift (post_bind h2)
    show post X.K X.mg EW.no σ' H2 ρ2 (liftB M2 (doCmp M2 o x y)) _
    rw [hk]
    intro ρ3 H3 e3 s3 v3 r3
    cases r3
    refine ⟨k, rfl, ?_⟩
    have h4 := h3 ρ3 H3 e3 s3
    cases k with
    | false => exact iteF (post_ok h4 s3 _ (.bl false))
    | true =>
      refine iteT ⟨ρ3, E, M2, er2.ext s2.mv e3, s3, post_imp (post_bind h4) fun ρ4 H4 z M4 e4 s4 h5 v4 r4 => ?_⟩
      exact ⟨ρ4, M4, y, z, s4, (r2.ext s2.mv e3).ext s3.mv e4, r4, fun σ'' => post_no (noErr_liftB _ _) h5⟩
/-! ### and, or, not -/
variable {rest : List Expr}
theorem e_one {op : BoolOp} (h : SE X W c a ea) : SE X W c (.BoolOp op [a] pos) ea := pe_one h
theorem e_and (ha : SE X W c a ea) (hb : SE X W c (.BoolOp .And (b :: rest) pos) eb) : SE X W c (.BoolOp .And (a :: b :: rest) pos) (.and_ ea eb) :=
  pe_imp (pe_and ha hb) fun σ H Q h => by
    obtain ⟨ρ, E, M, er, sr, h⟩ := h
    refine ⟨ρ, E, M, er, sr, post_imp (post_bind h) fun ρ1 H1 x M1 e1 s1 h1 v1 r1 => ?_⟩
    cases r1 with
    | bl k =>
      refine ⟨k, rfl, ?_⟩
      cases k with
      | true => exact iteT ⟨ρ1, E, M1, er.ext sr.mv e1, s1, h1⟩
      | false => exact iteF (post_ok h1 s1 _ (.bl false))
    | _ => exact h1.elim
theorem e_or (ha : SE X W c a ea) (hb : SE X W c (.BoolOp .Or (b :: rest) pos) eb) : SE X W c (.BoolOp .Or (a :: b :: rest) pos) (.or_ ea eb) :=
  pe_imp (pe_or ha hb) fun σ H Q h => by
    obtain ⟨ρ, E, M, er, sr, h⟩ := h
    refine ⟨ρ, E, M, er, sr, post_imp (post_bind h) fun ρ1 H1 x M1 e1 s1 h1 v1 r1 => ?_⟩
    cases r1 with
    | bl k =>
      refine ⟨k, rfl, ?_⟩
      cases k with
      | true => exact iteT (post_ok h1 s1 _ (.bl true))
      | false => exact iteF ⟨ρ1, E, M1, er.ext sr.mv e1, s1, h1⟩
    | _ => exact h1.elim
theorem e_not (ha : SE X W c a ea) : SE X W c (.UnaryOp .Not a pos) (.not_ ea) :=
  pe_imp (pe_not ha) fun σ H Q h => by
    obtain ⟨ρ, E, M, er, sr, h⟩ := h
    refine ⟨ρ, E, M, er, sr, post_imp (post_bind h) fun ρ1 H1 x M1 e1 s1 h1 v1 r1 => ?_⟩
    cases r1 with
    | bl k => exact ⟨k, rfl, post_ok h1 s1 _ (.bl _)⟩
    | _ => exact h1.elim
theorem e_neg (ha : SE X W c a ea) : SE X W c (.UnaryOp .USub a pos) (.neg ea) :=
  pe_imp (pe_un un_neg ha) fun σ H Q h => by
    obtain ⟨ρ, E, M, er, sr, h⟩ := h
    refine ⟨ρ, E, M, er, sr, post_imp (post_bind h) fun ρ1 H1 x M1 e1 s1 h1 v1 r1 => ?_⟩
    cases r1 with
    | int k => exact ⟨k, rfl, post_ok h1 s1 _ (.int _)⟩
    | _ => exact h1.elim
abbrev SW (X : Cx) (W : EW) (c : Ctx) (e : Expr) (m : Ex) : Prop := PW X e (tT X.K X.mg W (evT c m))
theorem w_and1 (h : ST X W c a ea) : SW X W c (.BoolOp .And [a] pos) ea := pw_and1 h
theorem w_or1 (h : ST X W c a ea) : SW X W c (.BoolOp .Or [a] pos) ea := pw_or1 h
theorem w_and (ha : ST X W c a ea) (hb : SW X W c (.BoolOp .And (b :: rest) pos) eb) : SW X W c (.BoolOp .And (a :: b :: rest) pos) (.and_ ea eb) :=
  pw_imp (pw_and ha hb) fun σ H Q h => by
    obtain ⟨ρ, E, M, er, sr, h⟩ := h
    refine ⟨ρ, E, M, er, sr, post_imp (post_bind h) fun ρ1 H1 k M1 e1 s1 h1 => ?_⟩
    cases k with
    | true => exact iteT ⟨ρ1, E, M1, er.ext sr.mv e1, s1, h1⟩
    | false => exact iteF (post_ok h1 s1)
theorem w_or (ha : ST X W c a ea) (hb : SW X W c (.BoolOp .Or (b :: rest) pos) eb) : SW X W c (.BoolOp .Or (a :: b :: rest) pos) (.or_ ea eb) :=
  pw_imp (pw_or ha hb) fun σ H Q h => by
    obtain ⟨ρ, E, M, er, sr, h⟩ := h
    refine ⟨ρ, E, M, er, sr, post_imp (post_bind h) fun ρ1 H1 k M1 e1 s1 h1 => ?_⟩
    cases k with
    | true => exact iteT (post_ok h1 s1)
    | false => exact iteF ⟨ρ1, E, M1, er.ext sr.mv e1, s1, h1⟩
theorem t_not (ha : ST X W c a ea) : ST X W c (.UnaryOp .Not a pos) (.not_ ea) :=
  pt_imp (pt_not ha) fun σ H Q h => by
    obtain ⟨ρ, E, M, er, sr, h⟩ := h
    exact ⟨ρ, E, M, er, sr, post_imp (post_bind h) fun ρ1 H1 k M1 e1 s1 h1 => post_ok h1 s1⟩
theorem e_ite (hd : ST X W c d ed) (ha : SE X W c a ea) (hb : SE X W c b eb) : SE X W c (.IfExp d a b pos) (.ite ed ea eb) :=
  pe_imp (pe_ifExp hd ha hb) fun σ H Q h => by
    obtain ⟨ρ, E, M, er, sr, h⟩ := h
    refine ⟨ρ, E, M, er, sr, post_imp (post_bind h) fun ρ1 H1 k M1 e1 s1 h1 => ?_⟩
    cases k with
    | true => exact iteT ⟨ρ1, E, M1, er.ext sr.mv e1, s1, h1⟩
    | false => exact iteF ⟨ρ1, E, M1, er.ext sr.mv e1, s1, h1⟩
/-! ### truth -/
theorem tru_of {H : Hp} {ρ : List Addr} {M : Store} {p : PV} {v : V} {k : Bool} (S : SR X.K X.mg H ρ M) (r : RP X.K H ρ p v) (h : truth M p = some k) : TruV X.K v H k := by
  cases r with
  | non => cases h; rfl
  | bl b => cases h; rfl
  | int i => cases h; rfl
  | str x =>
    simp only [truth] at h
    split at h
    · rename_i hl
      cases h
      refine ⟨le_big hl, ?_⟩
      by_cases hx : x.length = 0
      · rw [hx]; rfl
      · have h1 : ¬ (x.length : Int) = 0 := by omega
        rw [bne_iff_ne.mpr hx, bne_iff_ne.mpr h1]
    · cases h
  | @tup a vs xs ha ra =>
    cases h
    refine Or.inr (Or.inl ⟨vs, ha, ?_⟩)
    have := ra.length
    cases xs <;> cases vs <;> simp_all
  | @loc n a ha =>
    simp only [truth] at h
    split at h
    · rename_i xs hm
      cases h
      obtain ⟨vs, e1, r1⟩ := S.lst ha hm
      refine Or.inl ⟨vs, SqL.of e1, ?_⟩
      have := r1.length
      cases xs <;> cases vs <;> simp_all
    · rename_i kvs hm
      cases h
      obtain ⟨us, e1, r1⟩ := S.dic ha hm
      refine Or.inr (Or.inr ⟨us, e1, ?_⟩)
      cases r1 <;> rfl
    · cases h
  | fl _ => cases h
/-- a test by its value's truth -/
theorem t_truth (ha : SE X W c a ea) (he : ∀ whole, isTrue a X.env whole = (do let v ← whole; standAt a.pos; holding [v] (truthy v))) (hr : ∀ E M, evT c ea E M = (evE c ea E M).bind fun x M1 => lift M1 (truth M1 x)) : ST X W c a ea :=
  pt_imp (pt_truth ha he) fun σ H Q h => by
    obtain ⟨ρ, E, M, er, sr, h⟩ := h
    rw [hr] at h
    refine ⟨ρ, E, M, er, sr, post_imp (post_bind h) fun ρ1 H1 x M1 e1 s1 h1 v1 r1 => ?_⟩
    obtain ⟨k, hk, h2⟩ := post_lift h1
    exact ⟨k, tru_of s1 r1 hk, post_ok h2 s1⟩
/-! ### arguments, displays -/
theorem a_nil : SA X W c [] .nil :=
  pa_imp pa_nil fun σ H Q h => by
    obtain ⟨ρ, E, M, er, sr, h⟩ := h
    exact post_ok h sr _ .nil
theorem a_cons {e : Expr} {es : List Expr} {m : Ex} {ms : Exs} (ha : SE X W c e m) (hr : SA X W c es ms) (hs : starEach (e :: es) X.env = (false, eval e X.env) :: starEach es X.env) : SA X W c (e :: es) (.cons m ms) :=
  pa_imp (pa_cons ha hr hs) fun σ H Q h => by
    obtain ⟨ρ, E, M, er, sr, h⟩ := h
    refine ⟨ρ, E, M, er, sr, post_imp (post_bind h) fun ρ1 H1 x M1 e1 s1 h1 v1 r1 => ?_⟩
    refine ⟨ρ1, E, M1, er.ext sr.mv e1, s1, post_imp (post_bind h1) fun ρ2 H2 xs M2 e2 s2 h2 vs rs => ?_⟩
    exact post_ok h2 s2 _ (.cons (r1.ext s1.mv e2) rs)
variable {es : List Expr} {ms : Exs}
theorem e_tup {k : Nat} (h : SA X W c es ms) : SE X W c (.Tuple es k pos) (.tup ms) :=
  pe_imp (pe_tup h) fun σ H Q h => by
    obtain ⟨ρ, E, M, er, sr, h⟩ := h
    refine ⟨ρ, E, M, er, sr, post_imp (post_bind h) fun ρ1 H1 xs M1 e1 s1 h1 vs rs => ?_⟩
    have h1 : post X.K X.mg W σ H1 ρ1 (if xs.length ≤ big then .ok (.tup xs) M1 else .bad) (gE X.K Q) := h1
    split at h1
    · exact ⟨by rw [← rs.length]; exact le_big ‹_›, fun p hp => lay_tup s1 rs h1 hp⟩
    · exact h1.elim
theorem e_lst (h : SA X W c es ms) : SE X W c (.List es pos) (.lst ms) :=
  pe_imp (pe_lst h) fun σ H Q h => by
    obtain ⟨ρ, E, M, er, sr, h⟩ := h
    refine ⟨ρ, E, M, er, sr, post_imp (post_bind h) fun ρ1 H1 xs M1 e1 s1 h1 vs rs => ?_⟩
    have h1 : post X.K X.mg W σ H1 ρ1 (if xs.length ≤ big then .ok (.loc M1.length) (M1 ++ [.lst xs]) else .bad) (gE X.K Q) := h1
    split at h1
    · exact ⟨by rw [← rs.length]; exact le_big ‹_›, fun p hp => lay_lst s1 rs h1 hp⟩
    · exact h1.elim
/-! ### items -/
theorem ixN_ixOf (n : Nat) (i : Int) : ixN n i = ixOf n i := rfl
theorem atI_of {xs : List PV} {vs : List V} {H : Hp} {ρ : List Addr} {i : Int} {p : PV} (r : RPs X.K H ρ xs vs) (h : ((ixOf xs.length i).bind fun j => xs[j]?) = some p) : ∃ v, atI vs i = some v ∧ RP X.K H ρ p v := by
  simp only [Option.bind_eq_some_iff] at h
  obtain ⟨j, h1, h2⟩ := h
  obtain ⟨v, h3, h4⟩ := r.get h2
  refine ⟨v, ?_, h4⟩
  unfold atI
  rw [← r.length, ixN_ixOf, h1]
  exact h3
theorem valV_of {K : PySem.W.Frag} {H : Hp} {ρ : List Addr} {k : PV} {q : Key} (hk : keyOf k = some q) : ∀ {kvs : List (PV × PV)} {us : List (Key × V)}, RKV K H ρ kvs us → (∀ p, kvs.lookup k = some p → ∃ v, valV us q = some v ∧ RP K H ρ p v) ∧ (kvs.lookup k = none → valV us q = none)
  | _, _, .nil => And.intro (fun p h => nomatch h) (fun _ => rfl)
  | _, _, .cons (k := a) (q := e) (x := x) (v := v) ka hx r => by
    by_cases hac : a = k
    · subst hac
      rw [ka] at hk; cases hk
      rw [List.lookup_cons]
      simp only [beq_self_eq_true]
      exact And.intro (fun p h => (by cases h; exact ⟨v, valV_pos rfl, hx⟩)) (fun h => nomatch h)
    · have hcq : ¬ e = q := by
        intro z; subst z
        apply hac
        cases a <;> first | (cases ka; done) | skip
        all_goals (cases k <;> first | (cases hk; done) | skip)
        all_goals simp only [keyOf, Option.some.injEq] at ka hk
        all_goals (rw [← hk] at ka; cases ka; try rfl)
      have hb : (k == a) = false := by simp; exact fun z => hac z.symm
      rw [List.lookup_cons, hb, valV_neg hcq]
      exact valV_of hk r
theorem ix_dict (hu : X.A.units + 1 < cLine) : IxR X (fun x y H Q => ∃ p v, x = .ref p ∧ DGet H p y (some v) ∧ Q v H) := by
  rintro value slice pins s σ H x y v u Q I rx ry ⟨p, z, rfl, g, q⟩ hs
  cases rx
  have hT : s.TypeIs (.ref p) "dict" := dict_typeIs I g
  unfold subscriptTail
  rw [getitemInPython_of_ne hT.not_modules]
  have fin : wpAny (model X.prog X.w) X.A (subscripted slice false (.ref p) u) (fun r s3 => wpAny (model X.prog X.w) X.A (letTemporaryGo value (.ref p) r >>= fun _ => pure r) (EP X pins σ Q) X.xe s3) X.xe s := by
    rw [hs]
    refine wpAny_operating (d_getItem hu I g ry fun w' s' I' r' => ?_)
    exact wpAny_bind (wpAny_letTemporaryGo (wpAny_pure ⟨z, H, I', r', q⟩))
  exact wpAny_bind (wpAny_bind (wpAny_specialOf hT PySem.F.slot_dict_getitem.lookup (wpAny_pure (wpAny_bind fin))))
theorem e_idx (hu : X.A.units + 200 < cLine) (ha : SE X W c a ea) (hb : SE X W c b eb) (hs : PlainIx b) : SE X W c (.Subscript a b pos) (.idx ea eb) :=
  pe_imp (pe_ix (ix_seq.or (ix_dict (by omega))) ha hb hs) fun σ H Q h => by
    refine two (R := fun x y H Q => rIx X.K x y H Q ∨ ∃ p v, x = V.ref p ∧ DGet H p y (some v) ∧ Q v H) (ra := evE c ea) (rb := evE c eb) (f := fun x y M2 => lift M2 (doIdx M2 x y)) h fun ρ H E M p q x y er sr rx ry h => ?_
    obtain ⟨z, hz, h3⟩ := post_lift h
    have q := post_ok h3 sr
    clear h h3
    cases rx with
    | @tup t vs xs ht rt =>
      cases ry with
      | int i =>
        obtain ⟨v, g1, g2⟩ := atI_of rt hz
        exact Or.inl (Or.inr (Or.inl ⟨t, vs, i, v, rfl, rfl, ht, g1, q v g2⟩))
      | _ => cases hz
    | str s =>
      cases ry with
      | int i =>
        simp only [doIdx] at hz
        split at hz
        · rename_i hl
          simp only [Option.bind_eq_some_iff, Option.map_eq_some_iff] at hz
          obtain ⟨j, g1, ch, g2, rfl⟩ := hz
          refine Or.inl (Or.inr (Or.inr ⟨s, i, ch, rfl, rfl, le_big hl, ?_, q _ (.str _)⟩))
          unfold atI
          rw [ixN_ixOf, g1]
          exact g2
        · cases hz
      | _ => cases hz
    | @loc n t ht =>
      simp only [doIdx] at hz
      split at hz
      · rename_i xs hm
        obtain ⟨vs, e1', r1'⟩ := sr.lst ht hm
        split at hz
        · cases ry
          obtain ⟨v, g1, g2⟩ := atI_of r1' hz
          exact Or.inl (Or.inl ⟨t, vs, _, v, rfl, rfl, SqL.of e1', g1, q v g2⟩)
        · cases hz
      · rename_i kvs hm
        obtain ⟨us, e1, r1⟩ := sr.dic ht hm
        split at hz
        · rename_i hk
          obtain ⟨k, hk1, rfl⟩ := key_rel ry hk
          obtain ⟨v, g1, g2⟩ := (valV_of hk1 r1).1 _ hz
          exact Or.inr ⟨t, v, rfl, g1 ▸ DGet.k e1, q v g2⟩
        · cases hz
      · cases hz
    | @fl t xs ht =>
      cases ry with
      | int i =>
        simp only [doIdx, Option.bind_eq_some_iff, Option.map_eq_some_iff] at hz
        obtain ⟨j, g1, n, g2, rfl⟩ := hz
        refine Or.inl (Or.inl ⟨t, xs.map V.int, i, .int n, rfl, rfl, ht.sq, ?_, q _ (.int n)⟩)
        unfold atI
        rw [List.length_map, ixN_ixOf, g1]
        simp [g2]
      | _ => cases hz
    | _ => cases hz
/-! ### slices -/
theorem o_none : SO X W c none .none := po_imp po_none fun σ H Q ⟨ρ, E, M, er, sr, h⟩ => post_ok h sr
theorem o_some (h : SE X W c a ea) : SO X W c (some a) (.some ea) :=
  po_imp (po_some h) fun σ H Q h => by
    obtain ⟨ρ, E, M, er, sr, h⟩ := h
    refine ⟨ρ, E, M, er, sr, post_imp (post_bind h) fun ρ1 H1 x M1 e1 s1 h1 v1 r1 => ?_⟩
    cases r1 with
    | int k => exact ⟨k, rfl, post_ok h1 s1⟩
    | _ => exact h1.elim
theorem cut_rel {H : Hp} {ρ : List Addr} {xs : List PV} {vs : List V} (r : RPs X.K H ρ xs vs) (lo hi : Option Int) : RPs X.K H ρ (cut xs lo hi) (cutV vs lo hi) := by
  have e : ∀ n d o, cutIx n d o = HT.sIx n d o := fun n d o => by cases o <;> rfl
  unfold cut cutV
  rw [e, e, r.length]
  exact (r.drop _).take _
theorem e_slice {lo hi : Option Expr} {ol oh : Ox} {p2 : Pos} (ha : SE X W c a ea) (hl : SO X W c lo ol) (hh : SO X W c hi oh) : SE X W c (.Subscript a (.Slice lo hi none p2) pos) (.slice ea ol oh) :=
  pe_imp (pe_slice ((sl_list.or sl_tupA).or sl_str) ha hl hh) fun σ H Q h => by
    obtain ⟨ρ, E, M, er, sr, h⟩ := h
    refine ⟨ρ, E, M, er, sr, post_imp (post_bind h) fun ρ1 H1 x M1 e1 s1 h1 v1 r1 => ?_⟩
    have er1 := er.ext sr.mv e1
    refine ⟨ρ1, E, M1, er1, s1, post_imp (post_bind h1) fun ρ2 H2 l M2 e2 s2 h2 => ?_⟩
    have er2 := er1.ext s1.mv e2
    refine ⟨ρ2, E, M2, er2, s2, post_imp (post_bind h2) fun ρ3 H3 u M3 e3 s3 h3 => ?_⟩
    have r1 := (r1.ext s1.mv e2).ext s2.mv e3
    cases r1 with
    | @tup t vs xs ht rt =>
      have g := cut_rel rt l u
      refine Or.inl (Or.inr ⟨t, vs, rfl, ht, fun hw => ?_, fun _ p hp => lay_tup s3 g h3 hp⟩)
      refine post_ok h3 s3 _ (.tup ht ?_)
      have e : cutV vs l u = vs := by
        unfold cutV
        rw [hw.1, hw.2, Nat.sub_zero, List.drop_zero, List.take_length]
      rw [e] at g
      exact g
    | @loc n t ht =>
      have h3 : post X.K X.mg W σ H3 ρ3 (match M3[n]? with
        | some (.lst xs) => .ok (.loc M3.length) (M3 ++ [.lst (cut xs l u)])
        | _ => .bad) (gE X.K Q) := h3
      split at h3
      · rename_i xs hm
        obtain ⟨vs, e1', r1'⟩ := s3.lst ht hm
        exact Or.inl (Or.inl ⟨t, vs, rfl, SqL.of e1', fun p hp => lay_lst s3 (cut_rel r1' l u) h3 hp⟩)
      · exact h3.elim
    | str z =>
      have h3 : post X.K X.mg W σ H3 ρ3 (if z.length ≤ big then .ok (.str ⟨(cut z.cps.toList l u).toArray⟩) M3 else .bad) (gE X.K Q) := h3
      split at h3
      · rename_i hb
        have e : ∀ n d o, cutIx n d o = HT.sIx n d o := fun n d o => by cases o <;> rfl
        have e2 : cutS z l u = ⟨(cut z.cps.toList l u).toArray⟩ := by
          unfold cutS cut
          simp only [e]
          have : z.cps.toList.length = z.length := by simp [Str.length]
          rw [this]
        refine Or.inr ⟨z, rfl, hb, ?_⟩
        rw [e2]
        exact post_ok h3 s3 _ (.str _)
      · exact h3.elim
    | _ => exact h3.elim
end
end Wn
end
section
/-! So7: built-in functions and methods. -/
namespace Wn
open PySem PySem.Spec PyProof.Rows L2

section
variable {X : Cx}
theorem rps1 {K : PySem.W.Frag} {H : Hp} {ρ : List Addr} {p : PV} {xs : List V} (h : RPs K H ρ [p] xs) : ∃ v, xs = [v] ∧ RP K H ρ p v := by
  cases h with
  | cons a b => cases b; exact ⟨_, rfl, a⟩
theorem rps2 {K : PySem.W.Frag} {H : Hp} {ρ : List Addr} {p q : PV} {xs : List V} (h : RPs K H ρ [p, q] xs) : ∃ v w, xs = [v, w] ∧ RP K H ρ p v ∧ RP K H ρ q w := by
  cases h with
  | cons a b =>
    obtain ⟨w, rfl, r⟩ := rps1 b
    exact ⟨_, w, rfl, a, r⟩
abbrev rB (X : Cx) (f : Bi) : List V → Hp → VK → Prop := rL X.K X.mg fun M ps => doBi M f ps
theorem c_dlen : CallR X (.builtin "len") (fun xs H Q => ∃ p kvs, xs = [.ref p] ∧ H p = some (.dK kvs) ∧ Q (.int kvs.length) H) := by
  rintro pins s σ H xs us Q I r ⟨p, kvs, rfl, e, q⟩
  obtain ⟨u, rfl, ru⟩ := vals1 r
  cases ru
  exact d_len I (Rd.of e) fun t s' I' => ⟨.int kvs.length, H, I', ⟨t, rfl⟩, q⟩
theorem RKV.length {K : PySem.W.Frag} {H : Hp} {ρ : List Addr} : ∀ {a : List (PV × PV)} {b : List (Key × V)}, RKV K H ρ a b → a.length = b.length
  | _, _, .nil => rfl
  | _, _, .cons _ _ r => by rw [List.length_cons, List.length_cons, RKV.length r]
theorem c_len : CallR X (.builtin "len") (rB X .len) := by
  refine callr_imp (call_len.or c_dlen) ?_
  rintro xs H Q ⟨ρ, M, ps, sr, rs, h⟩
  have h := h []
  match ps, rs, h with
  | [.str x], rs, h =>
    obtain ⟨v, rfl, r⟩ := rps1 rs
    cases r
    have h : post X.K X.mg EW.no [] H ρ (if x.length ≤ big then .ok (.int x.length) M else .bad) (gE X.K Q) := h
    split at h
    · exact Or.inl ⟨_, x.length, rfl, ⟨le_big ‹_›, rfl⟩, post_ok h sr _ (.int _)⟩
    · exact h.elim
  | [.tup ys], rs, h =>
    obtain ⟨v, rfl, r⟩ := rps1 rs
    cases r with
    | @tup a vs _ ha ra => exact Or.inl ⟨_, vs.length, rfl, Or.inr ⟨vs, ha, rfl⟩, ra.length ▸ post_ok h sr _ (.int _)⟩
  | [.fl ys], rs, h =>
    obtain ⟨v, rfl, r⟩ := rps1 rs
    cases r with
    | @fl a _ ha => exact Or.inl ⟨_, (ys.map V.int).length, rfl, Or.inl ⟨_, ha.sq, rfl⟩, by rw [List.length_map]; exact post_ok h sr _ (.int _)⟩
  | [.loc n], rs, h =>
    obtain ⟨v, rfl, r⟩ := rps1 rs
    cases r with
    | @loc _ a ha =>
      simp only [doBi] at h
      split at h
      · rename_i ys hm
        obtain ⟨vs, e1, r1⟩ := sr.lst ha hm
        exact Or.inl ⟨_, vs.length, rfl, Or.inl ⟨vs, SqL.of e1, rfl⟩, r1.length ▸ post_ok h sr _ (.int _)⟩
      · rename_i kvs hm
        obtain ⟨us, e1, r1⟩ := sr.dic ha hm
        exact Or.inr ⟨a, us, rfl, e1, r1.length ▸ post_ok h sr _ (.int _)⟩
      · exact h.elim
  | [], _, h => exact h.elim
  | [.non], _, h => exact h.elim
  | [.bl _], _, h => exact h.elim
  | [.int _], _, h => exact h.elim
  | a :: _ :: _, _, h => cases a <;> exact h.elim
/-- a list or a tuple, its items -/
theorem items_sq {H : Hp} {ρ : List Addr} {M : Store} {p : PV} {v : V} {xs : List PV} (S : SR X.K X.mg H ρ M) (r : RP X.K H ρ p v) (h : items M p = some xs) : ∃ a vs, v = .ref a ∧ (SqL X.K H a vs ∨ (SqT X.K H a vs ∧ p = .tup xs)) ∧ RPs X.K H ρ xs vs := by
  cases r with
  | @tup a vs ys ha ra => cases h; exact ⟨a, vs, rfl, Or.inr ⟨ha, rfl⟩, ra⟩
  | @loc n a ha =>
    simp only [items] at h
    split at h
    · rename_i ys hm
      cases h
      obtain ⟨vs, e1, r1⟩ := S.lst ha hm
      exact ⟨a, vs, rfl, Or.inl (SqL.of e1), r1⟩
    · cases h
  | _ => cases h
theorem c_list : CallR X (.type "list") (rB X .list) := by
  refine callr_imp call_list_of ?_
  rintro xs H Q ⟨ρ, M, ps, sr, rs, h⟩
  have h := h []
  match ps, rs, h with
  | [x], rs, h =>
    obtain ⟨v, rfl, r⟩ := rps1 rs
    simp only [doBi] at h
    split at h
    · rename_i ys hi
      obtain ⟨a, vs, rfl, hs, r1⟩ := items_sq sr r hi
      exact ⟨a, vs, rfl, hs.imp id And.left, fun l hl => lay_lst sr r1 h hl⟩
    · exact h.elim
  | [], _, h => exact h.elim
  | a :: _ :: _, _, h => cases a <;> exact h.elim
theorem c_tuple : CallR X (.type "tuple") (rB X .tuple) := by
  refine callr_imp call_tuple_of ?_
  rintro xs H Q ⟨ρ, M, ps, sr, rs, h⟩
  have h := h []
  match ps, rs, h with
  | [x], rs, h =>
    obtain ⟨v, rfl, r⟩ := rps1 rs
    simp only [doBi] at h
    split at h
    · rename_i ys hi
      obtain ⟨a, vs, rfl, hs, r1⟩ := items_sq sr r hi
      rcases hs with hs | ⟨hs, rfl⟩
      · exact ⟨a, vs, rfl, Or.inl ⟨hs, fun l hl => lay_tup sr r1 h hl⟩⟩
      · exact ⟨a, vs, rfl, Or.inr ⟨hs, post_ok h sr _ r⟩⟩
    · exact h.elim
  | [], _, h => exact h.elim
  | a :: _ :: _, _, h => cases a <;> exact h.elim
theorem c_int : CallR X (.type "int") (rB X .int) := by
  refine callr_imp call_int1 ?_
  rintro xs H Q ⟨ρ, M, ps, sr, rs, h⟩
  have h := h []
  match ps, rs, h with
  | [.int i], rs, h =>
    obtain ⟨v, rfl, r⟩ := rps1 rs
    cases r
    exact Or.inl ⟨i, rfl, post_ok h sr _ (.int _)⟩
  | [.bl i], rs, h =>
    obtain ⟨v, rfl, r⟩ := rps1 rs
    cases r
    exact Or.inr ⟨i, rfl, post_ok h sr _ (.int _)⟩
  | [], _, h => exact h.elim
  | [.non], _, h => exact h.elim
  | [.str _], _, h => exact h.elim
  | [.tup _], _, h => exact h.elim
  | [.loc _], _, h => exact h.elim
  | [.fl _], _, h => exact h.elim
  | a :: _ :: _, _, h => cases a <;> exact h.elim
theorem two_ints {f : Bi} {g : Int → Int → Int} (hf : ∀ M i j, doBi M f [.int i, .int j] = .ok (.int (g i j)) M) (hn : ∀ M ps, (∀ i j, ps ≠ [.int i, .int j]) → doBi M f ps = .bad)
    {cf : Value} (hc : CallR X cf (fun xs H Q => ∃ i j, xs = [.int i, .int j] ∧ Q (.int (g i j)) H)) : CallR X cf (rB X f) := by
  refine callr_imp hc ?_
  rintro xs H Q ⟨ρ, M, ps, sr, rs, h⟩
  have h := h []
  by_cases e : ∃ i j, ps = [.int i, .int j]
  · obtain ⟨i, j, rfl⟩ := e
    obtain ⟨v, w, rfl, r1, r2⟩ := rps2 rs
    cases r1; cases r2
    simp only [hf] at h
    exact ⟨i, j, rfl, post_ok h sr _ (.int _)⟩
  · have := hn M ps (fun i j z => e ⟨i, j, z⟩)
    simp only [this] at h
    exact h.elim
theorem two_no {M : Store} {f : Bi} (hf : f = .max ∨ f = .min) {ps : List PV} (h : ∀ i j, ps ≠ [.int i, .int j]) : doBi M f ps = .bad := by
  match ps, h with
  | [], _ => rcases hf with rfl | rfl <;> rfl
  | [a], _ => rcases hf with rfl | rfl <;> cases a <;> rfl
  | [a, b], h => rcases hf with rfl | rfl <;> cases a <;> cases b <;> first | rfl | exact absurd rfl (h _ _)
  | a :: b :: d :: r, _ => rcases hf with rfl | rfl <;> cases a <;> cases b <;> rfl
theorem c_max (hc : X.calm = true) : CallR X (.builtin "max") (rB X .max) := two_ints (fun _ _ _ => rfl) (fun _ _ h => two_no (Or.inl rfl) h) (call_max2 hc)
theorem c_min (hc : X.calm = true) : CallR X (.builtin "min") (rB X .min) := two_ints (fun _ _ _ => rfl) (fun _ _ h => two_no (Or.inr rfl) h) (call_min2 hc)
theorem bools_rel {H : Hp} {ρ : List Addr} : ∀ {xs : List PV} {vs : List V} {bs : List Bool}, RPs X.K H ρ xs vs → bools xs = some bs → vs = bs.map V.bl
  | _, _, _, .nil, h => by cases h; rfl
  | _, _, _, .cons r rs, h => by
    cases r with
    | bl b =>
      simp only [bools, Option.map_eq_some_iff] at h
      obtain ⟨bs, h1, rfl⟩ := h
      rw [bools_rel rs h1]; rfl
    | _ => cases h
theorem ints_rel {H : Hp} {ρ : List Addr} : ∀ {xs : List PV} {vs : List V} {bs : List Int}, RPs X.K H ρ xs vs → intsOf xs = some bs → vs = bs.map V.int
  | _, _, _, .nil, h => by cases h; rfl
  | _, _, _, .cons r rs, h => by
    cases r with
    | int b =>
      simp only [intsOf, Option.map_eq_some_iff] at h
      obtain ⟨bs, h1, rfl⟩ := h
      rw [ints_rel rs h1]; rfl
    | _ => cases h
/-- of a list alone -/
theorem one_list {f : Bi} {cf : Value} {g : List PV → Option PV} (hf : ∀ M n xs, M[n]? = some (.lst xs) → doBi M f [.loc n] = match g xs with
      | some p => .ok p M
      | none => .bad) (hn : ∀ M ps, (∀ n xs, ps = [.loc n] → M[n]? ≠ some (.lst xs)) → doBi M f ps = .bad)
    (hc : CallR X cf (fun ys H Q => ∃ a vs, ys = [.ref a] ∧ SqL X.K H a vs ∧ ∃ ρ xs p, RPs X.K H ρ xs vs ∧ g xs = some p ∧ ∀ v, RP X.K H ρ p v → Q v H)) : CallR X cf (rB X f) := by
  refine callr_imp hc ?_
  rintro ys H Q ⟨ρ, M, ps, sr, rs, h⟩
  have h := h []
  by_cases e : ∃ n xs, ps = [.loc n] ∧ M[n]? = some (.lst xs)
  · obtain ⟨n, xs, rfl, hm⟩ := e
    obtain ⟨v, rfl, r⟩ := rps1 rs
    cases r with
    | @loc _ a ha =>
      obtain ⟨vs, e1, r1⟩ := sr.lst ha hm
      simp only [hf M n xs hm] at h
      split at h
      · rename_i p hg
        exact ⟨a, vs, rfl, SqL.of e1, ρ, xs, p, r1, hg, fun v r => post_ok h sr v r⟩
      · exact h.elim
  · have := hn M ps (fun n xs z w => e ⟨n, xs, z, w⟩)
    simp only [this] at h
    exact h.elim
theorem list_no {M : Store} {f : Bi} (hf : f = .all ∨ f = .any ∨ f = .sum) {ps : List PV} (h : ∀ n xs, ps = [.loc n] → M[n]? ≠ some (.lst xs)) : doBi M f ps = .bad := by
  match ps, h with
  | [], _ => rcases hf with rfl | rfl | rfl <;> rfl
  | [.loc n], h =>
    have h := fun xs => h n xs rfl
    rcases hf with rfl | rfl | rfl
    all_goals
      unfold doBi
      dsimp only
      split
      · rename_i w hw
        exact absurd hw (h _)
      · rfl
  | [.non], _ => rcases hf with rfl | rfl | rfl <;> rfl
  | [.bl _], _ => rcases hf with rfl | rfl | rfl <;> rfl
  | [.int _], _ => rcases hf with rfl | rfl | rfl <;> rfl
  | [.str _], _ => rcases hf with rfl | rfl | rfl <;> rfl
  | [.tup _], _ => rcases hf with rfl | rfl | rfl <;> rfl
  | [.fl _], _ => rcases hf with rfl | rfl | rfl <;> rfl
  | [.exc _ _ _], _ => rcases hf with rfl | rfl | rfl <;> rfl
  | a :: b :: r, _ => rcases hf with rfl | rfl | rfl <;> cases a <;> rfl
theorem c_all (hc : X.calm = true) : CallR X (.builtin "all") (rB X .all) :=
  one_list (g := fun xs => (bools xs).map fun bs => .bl (bs.all id)) (fun M n xs hm => by simp only [doBi, hm]; cases bools xs <;> rfl) (fun _ _ h => list_no (Or.inl rfl) h)
    (callr_imp (cr_all hc) fun ys H Q ⟨a, vs, e, hs, ρ, xs, p, r, hg, q⟩ => by
      simp only [Option.map_eq_some_iff] at hg
      obtain ⟨bs, h1, rfl⟩ := hg
      exact ⟨a, bs, e, bools_rel r h1 ▸ hs, q _ (.bl _)⟩)
theorem c_any (hc : X.calm = true) : CallR X (.builtin "any") (rB X .any) :=
  one_list (g := fun xs => (bools xs).map fun bs => .bl (bs.any id)) (fun M n xs hm => by simp only [doBi, hm]; cases bools xs <;> rfl) (fun _ _ h => list_no (Or.inr (Or.inl rfl)) h)
    (callr_imp (cr_any hc) fun ys H Q ⟨a, vs, e, hs, ρ, xs, p, r, hg, q⟩ => by
      simp only [Option.map_eq_some_iff] at hg
      obtain ⟨bs, h1, rfl⟩ := hg
      exact ⟨a, bs, e, bools_rel r h1 ▸ hs, q _ (.bl _)⟩)
theorem c_sum (hc : X.calm = true) : CallR X (.builtin "sum") (rB X .sum) :=
  one_list (g := fun xs => (intsOf xs).map fun bs => .int bs.sum) (fun M n xs hm => by simp only [doBi, hm]; cases intsOf xs <;> rfl) (fun _ _ h => list_no (Or.inr (Or.inr rfl)) h)
    (callr_imp (cr_sum hc) fun ys H Q ⟨a, vs, e, hs, ρ, xs, p, r, hg, q⟩ => by
      simp only [Option.map_eq_some_iff] at hg
      obtain ⟨bs, h1, rfl⟩ := hg
      exact ⟨a, bs, e, ints_rel r h1 ▸ hs, q _ (.int _)⟩)
/-! ### dicts -/
theorem key_inj {a k : PV} {q : Key} (ha : keyOf a = some q) (hk : keyOf k = some q) : a = k := by
  cases a <;> first | (cases ha; done) | skip
  all_goals (cases k <;> first | (cases hk; done) | skip)
  all_goals simp only [keyOf, Option.some.injEq] at ha hk
  all_goals (rw [← hk] at ha; cases ha; try rfl)
theorem key_eq {a k : PV} {e q : Key} (ha : keyOf a = some e) (hk : keyOf k = some q) : decide (a = k) = decide (e = q) := by
  by_cases h : a = k
  · subst h; rw [ha] at hk; cases hk; simp
  · rw [decide_eq_false h, decide_eq_false fun z => h (by subst z; exact key_inj ha hk)]
theorem RKV.any {K : PySem.W.Frag} {H : Hp} {ρ : List Addr} {k : PV} {q : Key} (hk : keyOf k = some q) : ∀ {kvs : List (PV × PV)} {us : List (Key × V)}, RKV K H ρ kvs us → (kvs.any fun p => decide (p.1 = k)) = us.any fun kv => decide (kv.1 = q)
  | _, _, .nil => rfl
  | _, _, .cons ka _ r => by rw [List.any_cons, List.any_cons, RKV.any hk r, key_eq ka hk]
theorem RKV.map {K : PySem.W.Frag} {H : Hp} {ρ : List Addr} {k x : PV} {q : Key} {v : V} (hk : keyOf k = some q) (hx : RP K H ρ x v) : ∀ {kvs : List (PV × PV)} {us : List (Key × V)}, RKV K H ρ kvs us → RKV K H ρ (kvs.map fun p => if p.1 = k then (p.1, x) else p) (us.map fun kv => if kv.1 = q then (kv.1, v) else kv)
  | _, _, .nil => .nil
  | _, _, .cons (k := a) (q := e) ka ra r => by
    rw [List.map_cons, List.map_cons]
    by_cases h : a = k
    · have h' : e = q := by subst h; rw [ka] at hk; cases hk; rfl
      rw [if_pos h, if_pos h']
      exact .cons ka hx (RKV.map hk hx r)
    · have h' : ¬ e = q := fun z => h (by subst z; exact key_inj ka hk)
      rw [if_neg h, if_neg h']
      exact .cons ka ra (RKV.map hk hx r)
theorem RKV.snoc {K : PySem.W.Frag} {H : Hp} {ρ : List Addr} {k x : PV} {q : Key} {v : V} (hk : keyOf k = some q) (hx : RP K H ρ x v) : ∀ {kvs : List (PV × PV)} {us : List (Key × V)}, RKV K H ρ kvs us → RKV K H ρ (kvs ++ [(k, x)]) (us ++ [(q, v)])
  | _, _, .nil => .cons hk hx .nil
  | _, _, .cons ka ra r => .cons ka ra (RKV.snoc hk hx r)
theorem RKV.put {K : PySem.W.Frag} {H : Hp} {ρ : List Addr} {k x : PV} {q : Key} {v : V} (hk : keyOf k = some q) (hx : RP K H ρ x v) {kvs : List (PV × PV)} {us : List (Key × V)} (r : RKV K H ρ kvs us) : RKV K H ρ (putD k x kvs) (putK us q v) := by
  unfold putD putK
  rw [r.any hk]
  split
  · exact r.map hk hx
  · exact r.snoc hk hx
theorem RKV.merge {K : PySem.W.Frag} {H : Hp} {ρ : List Addr} : ∀ {ps acc : List (PV × PV)} {us bs : List (Key × V)}, RKV K H ρ ps us → RKV K H ρ acc bs → RKV K H ρ (mergeD acc ps) (mergeK bs us)
  | _, _, _, _, .nil, r => r
  | _, _, _, _, .cons hk hx rs, r => by
    have q := RKV.merge rs (r.put hk hx)
    exact q
theorem pairs_rel {H : Hp} {ρ : List Addr} : ∀ {xs : List PV} {vs : List V} {ps : List (PV × PV)}, RPs X.K H ρ xs vs → pairs xs = some ps → ∃ (as : List Addr) (kvs : List (Key × V)), vs = as.map V.ref ∧ Paired (fun p kv => SqT X.K H p [kV kv.1, kv.2]) as kvs ∧ RKV X.K H ρ ps kvs
  | _, _, _, .nil, h => by cases h; exact ⟨[], [], rfl, .nil, .nil⟩
  | x :: _, _, ps, .cons r rs, h => by
    match x, h, r with
    | .tup [k, p], h, .tup (a := a) ha ra =>
      simp only [pairs] at h
      split at h
      · rename_i hk
        simp only [Option.map_eq_some_iff] at h
        obtain ⟨qs, h1, rfl⟩ := h
        obtain ⟨v, w, rfl, r1, r2⟩ := rps2 ra
        obtain ⟨q, hq, rfl⟩ := key_rel r1 hk
        obtain ⟨as, kvs, e1, e2, e3⟩ := pairs_rel rs h1
        exact ⟨a :: as, (q, w) :: kvs, by rw [e1]; rfl, .cons ha e2, .cons hq r2 e3⟩
      · cases h
    | .non, h, _ => cases h
    | .bl _, h, _ => cases h
    | .int _, h, _ => cases h
    | .str _, h, _ => cases h
    | .loc _, h, _ => cases h
    | .fl _, h, _ => cases h
    | .tup [], h, _ => cases h
    | .tup [_], h, _ => cases h
    | .tup (_ :: _ :: _ :: _), h, _ => cases h
theorem or_dic {K : PySem.W.Frag} {mg : Str → Option Value} {H : Hp} {ρ : List Addr} {M : Store} {p : Addr} {us : List (Key × V)} {ps : List (PV × PV)} (S : SR K mg H ρ M) (hp : H p = none) (r : RKV K H ρ ps us) : OR K mg (upd H p (.dK us)) (ρ ++ [p]) p (.dic ps) :=
  ⟨us, upd_same, r.ext S.mv (ext_laid S hp)⟩
theorem lay_dic {K : PySem.W.Frag} {mg : Str → Option Value} {H : Hp} {ρ : List Addr} {M : Store} {W : EW} {σ : L2.St} {Q : VK} {ps : List (PV × PV)} {us : List (Key × V)} (S : SR K mg H ρ M) (r : RKV K H ρ ps us) (h : post K mg W σ H ρ (.ok (.loc M.length) (M ++ [.dic ps])) (gE K Q)) {p : Addr} (hp : H p = none) : Q (.ref p) (upd H p (.dK us)) :=
  h _ _ (ext_laid S hp) (S.laid hp (or_dic S hp r)) _ (loc_new S)
theorem c_dcopy : CallR X (.type "dict") (fun xs H Q => ∃ p kvs, xs = [.ref p] ∧ H p = some (.dK kvs) ∧ ∀ l, H l = none → Q (.ref l) (upd H l (.dK kvs))) := by
  rintro pins s σ H xs us Q I r ⟨p, kvs, rfl, e, q⟩
  obtain ⟨u, rfl, ru⟩ := vals1 r
  cases ru
  exact d_copyOf I (Rd.of e) fun l s' hl I' => ⟨.ref l, _, I', rfl, q l hl⟩
theorem c_dict (hc : X.calm = true) : CallR X (.type "dict") (rB X .dict) := by
  refine callr_imp ((call_dictP hc).or c_dcopy) ?_
  rintro xs H Q ⟨ρ, M, ps, sr, rs, h⟩
  have h := h []
  match ps, rs, h with
  | [.loc n], rs, h =>
    obtain ⟨v, rfl, r⟩ := rps1 rs
    cases r with
    | @loc _ a ha =>
      simp only [doBi] at h
      split at h
      · rename_i ys hm
        obtain ⟨vs, e1, r1⟩ := sr.lst ha hm
        split at h
        · rename_i qs hp
          obtain ⟨as, kvs, rfl, e3, e4⟩ := pairs_rel r1 hp
          exact Or.inl ⟨a, as, kvs, rfl, SqL.of e1, e3, fun p hp => lay_dic sr (e4.merge .nil) h hp⟩
        · exact h.elim
      · rename_i kvs hm
        obtain ⟨us, e1, r1⟩ := sr.dic ha hm
        exact Or.inr ⟨a, us, rfl, e1, fun p hp => lay_dic sr r1 h hp⟩
      · exact h.elim
  | [], _, h => exact h.elim
  | [.non], _, h => exact h.elim
  | [.bl _], _, h => exact h.elim
  | [.int _], _, h => exact h.elim
  | [.str _], _, h => exact h.elim
  | [.tup _], _, h => exact h.elim
  | [.fl _], _, h => exact h.elim
  | a :: _ :: _, _, h => cases a <;> exact h.elim
end
end Wn
end
section
/-! So8: calls of built-ins, of methods, of own defs. -/
namespace Wn
open PySem PySem.Spec PyProof.Rows L2

theorem noErr_bi (M : Store) (f : Bi) (ps : List PV) : NoErr (doBi M f ps) := by
  intro x M' e
  unfold doBi at e
  repeat' split at e
  all_goals first | cases e | skip
theorem noErr_bm (M : Store) (m : Bm) (o : PV) (ps : List PV) : NoErr (doBm M m o ps) := by
  intro x M' e
  unfold doBm at e
  repeat' split at e
  all_goals first | cases e | skip

section
variable {X : Cx} {W : EW} {c : Ctx} {e : Expr} {es : List Expr} {ms : Exs} {pos p : Pos} {x : Str}
theorem of_args {r : List V → Hp → VK → Prop} {f : Store → List PV → Res PV} {m : Ex} (hm : ∀ E M, evE c m E M = (evEs c ms E M).bind fun xs M1 => f M1 xs) (hn : ∀ M ps, NoErr (f M ps)) {σ : L2.St} {H : Hp} {Q : VK}
    (h : tE X.K X.mg W (evE c m) σ H Q) (hr : ∀ vs H Q, rL X.K X.mg f vs H Q → r vs H Q) : tA X.K X.mg W (evEs c ms) σ H fun vs H1 => r vs H1 Q := by
  obtain ⟨ρ, E, M, er, sr, h⟩ := h
  rw [hm] at h
  exact ⟨ρ, E, M, er, sr, post_imp (post_bind h) fun ρ1 H1 xs M1 e1 s1 h1 vs rs => hr _ _ _ ⟨ρ1, M1, xs, s1, rs, fun σ' => post_no (hn M1 xs) h1⟩⟩
theorem e_biB {f : Bi} {id : String} (hc : CallR X (.builtin id) (rB X f)) (hg : Gl X x) (hm : X.mg x = none) (hv : bootBuiltins x = some (.builtin id)) (ha : SA X W c (e :: es) ms) (hn : x ≠ "__name__") (hdb : (x == ("__debug__" : Str)) = false)
    (he : starEach (e :: es) X.env = (false, eval e X.env) :: starEach es X.env) (hpl : (backTo pos (starEach es X.env)).any (·.1) = false) : SE X W c (.Call (.Name x p) (e :: es) [] pos) (.bi f ms) :=
  pe_imp (pe_callB hc hg hm hv ha hn hdb he hpl) fun σ H Q h => of_args (f := fun M ps => doBi M f ps) (fun _ _ => rfl) (fun M ps => noErr_bi M f ps) h fun _ _ _ q => q
theorem e_biT {f : Bi} {T : String} (hc : CallR X (.type T) (rB X f)) (hg : Gl X x) (hm : X.mg x = none) (hv : bootBuiltins x = some (.type T)) (ha : SA X W c (e :: es) ms) (hn : x ≠ "__name__") (hdb : (x == ("__debug__" : Str)) = false)
    (he : starEach (e :: es) X.env = (false, eval e X.env) :: starEach es X.env) (hpl : (backTo pos (starEach es X.env)).any (·.1) = false) : SE X W c (.Call (.Name x p) (e :: es) [] pos) (.bi f ms) :=
  pe_imp (pe_callTy hc hg hm hv ha hn hdb he hpl) fun σ H Q h => of_args (f := fun M ps => doBi M f ps) (fun _ _ => rfl) (fun M ps => noErr_bi M f ps) h fun _ _ _ q => q
/-! ### methods of lists -/
abbrev rMt (X : Cx) (m : Bm) : V → List V → Hp → VK → Prop := rM X.K X.mg fun M o ps => doBm M m o ps
/-- the receiver is a list of ours -/
theorem bm_list {m : Bm} {H : Hp} {Q : VK} {x : V} {xs : List V} {r : Prop} (hm : m ≠ .get ∧ m ≠ .dpop) (h : rMt X m x xs H Q)
    (k : ∀ ρ M n a ys vs ps, SR X.K X.mg H ρ M → ρ[n]? = some a → M[n]? = some (.lst ys) → H a = some (.lst vs) → RPs X.K H ρ ys vs → RPs X.K H ρ ps xs → x = .ref a → post X.K X.mg EW.no [] H ρ (doBm M m (.loc n) ps) (gE X.K Q) → r) : r := by
  obtain ⟨ρ, M, o, ps, sr, ro, rs, h⟩ := h
  have h := h []
  cases ro with
  | @loc n a ha =>
    have h0 := h
    simp only [doBm] at h
    split at h
    · rename_i ys hm'
      obtain ⟨vs, e1, r1⟩ := sr.lst ha hm'
      exact k ρ M n a ys vs ps sr ha hm' e1 r1 rs rfl h0
    · exfalso
      split at h
      · exact hm.1 rfl
      · exact hm.2 rfl
      · exact h
    · exact h.elim
  | _ => exact h.elim
theorem m_append : MtR X "list.append" (rMt X .append) := mtr_imp mt_append fun x xs H Q h0 => bm_list ⟨by decide, by decide⟩ h0 fun ρ M n a ys vs ps sr ha hm e1 r1 rs ex h => by
  subst ex
  simp only [doBm, hm] at h
  match ps, rs, h with
  | [q], rs, h =>
    obtain ⟨v, rfl, rv⟩ := rps1 rs
    dsimp only at h
    split at h
    · rename_i hl
      exact ⟨a, vs, v, rfl, rfl, e1, by rw [← r1.length]; exact lt_big hl, put_lst sr ha (r1.snoc rv) .non h⟩
    · exact h.elim
  | [], _, h => exact h.elim
  | _ :: _ :: _, _, h => exact h.elim
theorem m_extend : MtR X "list.extend" (rMt X .extend) := mtr_imp mt_extend fun x xs H Q h0 => bm_list ⟨by decide, by decide⟩ h0 fun ρ M n a ys vs ps sr ha hm e1 r1 rs ex h => by
  subst ex
  simp only [doBm, hm] at h
  match ps, rs, h with
  | [.loc k], rs, h =>
    obtain ⟨v, rfl, rv⟩ := rps1 rs
    cases rv with
    | @loc _ b hb =>
      dsimp only at h
      split at h
      · rename_i zs hz
        obtain ⟨us, e2, r2⟩ := sr.lst hb hz
        split at h
        · rename_i hl
          exact ⟨a, b, vs, us, rfl, rfl, e1, e2, by rw [← r1.length, ← r2.length]; exact le_big hl, put_lst sr ha (r1.append r2) .non h⟩
        · exact h.elim
      · exact h.elim
  | [], _, h => exact h.elim
  | [.non], _, h => exact h.elim
  | [.bl _], _, h => exact h.elim
  | [.int _], _, h => exact h.elim
  | [.str _], _, h => exact h.elim
  | [.tup _], _, h => exact h.elim
  | [.fl _], _, h => exact h.elim
  | a :: _ :: _, _, h => cases a <;> exact h.elim
theorem m_pop : MtR X "list.pop" (rMt X .pop) := mtr_imp mt_pop fun x xs H Q h0 => bm_list ⟨by decide, by decide⟩ h0 fun ρ M n a ys vs ps sr ha hm e1 r1 rs ex h => by
  subst ex
  simp only [doBm, hm] at h
  match ps, rs, h with
  | [], rs, h =>
    cases rs
    dsimp only at h
    split at h
    · rename_i y hy
      obtain ⟨v, h1, h2⟩ := r1.get hy
      exact ⟨a, vs, v, rfl, rfl, e1, by rw [← r1.length]; exact h1, put_lst sr ha r1.dropLast h2 h⟩
    · exact h.elim
  | a :: _, _, h => exact h.elim
theorem m_clear : MtR X "list.clear" (rMt X .clear) := mtr_imp mt_clear fun x xs H Q h0 => bm_list ⟨by decide, by decide⟩ h0 fun ρ M n a ys vs ps sr ha hm e1 r1 rs ex h => by
  subst ex
  simp only [doBm, hm] at h
  match ps, rs, h with
  | [], rs, h =>
    cases rs
    exact ⟨a, vs, rfl, rfl, e1, put_lst sr ha .nil .non h⟩
  | a :: _, _, h => exact h.elim
variable {o : Expr} {eo : Ex} {name : Str} {apos cpos : Pos} {id : String}
theorem bm_read {m : Bm} (hk : m ≠ .get ∧ m ≠ .dpop) {σ : L2.St} {H : Hp} {Q : VK} (h : tE X.K X.mg W (evE c (.bm m eo ms)) σ H Q) :
    tE X.K X.mg W (evE c eo) σ H fun x H1 => tyV X.K "list" x H1 ∧ tA X.K X.mg W (evEs c ms) σ H1 fun xs H2 => rMt X m x xs H2 Q := by
  obtain ⟨ρ, E, M, er, sr, h⟩ := h
  refine ⟨ρ, E, M, er, sr, post_imp (post_bind h) fun ρ1 H1 q M1 e1 s1 h1 v1 r1 => ?_⟩
  split at h1
  · rename_i hb
    have ty : tyV X.K "list" v1 H1 := by
      cases r1 with
      | @loc n a ha =>
        simp only [bmOk] at hb
        split at hb
        · rename_i ys hm
          obtain ⟨vs, e2, r2⟩ := s1.lst ha hm
          exact Or.inl ⟨rfl, vs, SqL.of e2⟩
        · cases m <;> first | (cases hb; done) | exact absurd rfl hk.1 | exact absurd rfl hk.2
        · cases hb
      | _ => cases hb
    refine ⟨ty, ρ1, E, M1, er.ext sr.mv e1, s1, post_imp (post_bind h1) fun ρ2 H2 xs M2 e2 s2 h2 vs rs => ?_⟩
    exact ⟨ρ2, M2, q, xs, s2, r1.ext s1.mv e2, rs, fun σ' => post_no (noErr_bm _ _ _ _) h2⟩
  · exact h1.elim
theorem e_bm0 {m : Bm} (hk : m ≠ .get ∧ m ≠ .dpop) (slot : Slot "list" name id) (hty : typeOf (.builtin id) = pure (.type "method_descriptor")) (hm : MtR X id (rMt X m)) (ho : SE X W c o eo)
    (hbase : attributeBase o name X.env (eval o X.env) = eval o X.env) (hline : (apos.endLine == cpos.line) = true) : SE X W c (.Call (.Attribute o name apos) [] [] cpos) (.bm m eo .nil) :=
  pe_imp (pe_bm0 PySem.F.plainAttrs_list slot hty hm ho hbase hline) fun σ H Q h => by
    obtain ⟨ρ, E, M, er, sr, h⟩ := bm_read hk h
    refine ⟨ρ, E, M, er, sr, post_imp h fun ρ1 H1 q M1 e1 s1 h1 v1 r1 => ?_⟩
    obtain ⟨ty, ρ2, E2, M2, er2, sr2, h2⟩ := h1 v1 r1
    exact ⟨ty, post_ok h2 sr2 _ .nil⟩
theorem e_bm {m : Bm} (hk : m ≠ .get ∧ m ≠ .dpop) (slot : Slot "list" name id) (hty : typeOf (.builtin id) = pure (.type "method_descriptor")) (hm : MtR X id (rMt X m)) (ho : SE X W c o eo) (ha : SA X W c (e :: es) ms)
    (hbase : attributeBase o name X.env (eval o X.env) = eval o X.env)
    (hfew : ((backTo cpos (starEach (e :: es) X.env)).all (fun x => !x.1) && (backToKw cpos (keywordEach [] X.env)).all (fun x => x.1.isSome)
      && decide ((e :: es).length + ([] : List Keyword).length + (if ([] : List Keyword).isEmpty then 0 else 1) < 30)) = true)
    (hline : (apos.endLine == cpos.line) = true) (hs : starEach (e :: es) X.env = (false, eval e X.env) :: starEach es X.env) (hplain : (backTo cpos (starEach es X.env)).any (·.1) = false) :
    SE X W c (.Call (.Attribute o name apos) (e :: es) [] cpos) (.bm m eo ms) :=
  pe_imp (pe_bm PySem.F.plainAttrs_list slot hty hm ho ha hbase hfew hline hs hplain) fun σ H Q h => bm_read hk h
/-! ### isinstance -/
def tyName : Ty → String
  | .str => "str" | .int => "int" | .bool => "bool" | .tuple => "tuple" | .list => "list" | .dict => "dict" | .cls _ => ""
def isOwn : Ty → Bool
  | .cls _ => true
  | _ => false
theorem kit_of_names {K : PySem.W.Frag} {a : String} {t : Ty} {b : Bool} (h : kitB a (tyName t) = some b) : PySem.W.kitOne K (.type a) (.type (tyName t)) = some b := kit_ty h
theorem sqT_ty {K : PySem.W.Frag} {H : Hp} {a : Addr} {vs : List V} (h : SqT K H a vs) : TyX K H (.ref a) (.type "tuple") := by
  rcases h with (h | ⟨o, h⟩) | ⟨o, its, n, h1, h2, _⟩
  · exact .base (.tup h)
  · exact .fTuple h
  · exact .kTuple h1 h2
theorem isTy_kit {H : Hp} {ρ : List Addr} {M : Store} {q : PV} {v : V} {t : Ty} {b : Bool} (ho : isOwn t = false) (S : SR X.K X.mg H ρ M) (r : RP X.K H ρ q v) (h : isTy M q t = some b) : ∃ u, TyX X.K H v u ∧ PySem.W.kitOne X.K u (.type (tyName t)) = some b := by
  cases r with
  | non =>
    refine ⟨_, .base .non, kit_of_names ?_⟩
    cases t <;> first | (cases ho; done) | skip
    all_goals (cases h; decide +kernel)
  | bl k =>
    refine ⟨_, .base (.bl k), kit_of_names ?_⟩
    cases t <;> first | (cases ho; done) | skip
    all_goals (cases h; decide +kernel)
  | int k =>
    refine ⟨_, .base (.int k), kit_of_names ?_⟩
    cases t <;> first | (cases ho; done) | skip
    all_goals (cases h; decide +kernel)
  | str k =>
    refine ⟨_, .base (.str k), kit_of_names ?_⟩
    cases t <;> first | (cases ho; done) | skip
    all_goals (cases h; decide +kernel)
  | @tup a vs xs ha ra =>
    refine ⟨_, sqT_ty ha, kit_of_names ?_⟩
    cases t <;> first | (cases ho; done) | skip
    all_goals (cases h; decide +kernel)
  | @loc n a ha =>
    simp only [isTy] at h
    split at h
    · rename_i ys hm
      obtain ⟨vs, e1, r1⟩ := S.lst ha hm
      refine ⟨_, .base (.lst e1), kit_of_names ?_⟩
      cases t <;> first | (cases ho; done) | skip
      all_goals (cases h; decide +kernel)
    · rename_i ys hm
      obtain ⟨vs, e1, r1⟩ := S.dic ha hm
      refine ⟨_, .base (.dK e1), kit_of_names ?_⟩
      cases t <;> first | (cases ho; done) | skip
      all_goals (cases h; decide +kernel)
    · cases h
  | fl _ => cases h
variable {ea : Ex} {t : Ty} {q2 : Pos}
theorem isi_base (ho : isOwn t = false) (ha : SE X W c e ea) (hg : Gl X "isinstance") (hm : X.mg "isinstance" = none) (hgt : Gl X (tyName t)) (hmt : X.mg (tyName t) = none) (hvt : bootBuiltins (tyName t) = some (.type (tyName t)))
    (hnt : ((tyName t : Str)) ≠ "__name__") (hdt : (((tyName t : Str)) == ("__debug__" : Str)) = false) (hs : starEach [e, .Name (tyName t) q2] X.env = (false, eval e X.env) :: starEach [.Name (tyName t) q2] X.env) :
    PE X (.Call (.Name "isinstance" p) [e, .Name (tyName t) q2] [] pos) (fun σ H Q => tE X.K X.mg W (evE c ea) σ H fun x H1 => ∃ ρ M r b, SR X.K X.mg H1 ρ M ∧ RP X.K H1 ρ r x ∧ isTy M r t = some b ∧ Q (.bl b) H1) :=
  pe_imp (pe_callB call_isi hg hm (by decide +kernel) (pa_cons ha (pa_cons (pe_bltn (v := .ty (tyName t)) hgt hmt hvt rfl hnt hdt) pa_nil rfl) hs) (by decide) (by decide) hs rfl) fun σ H Q h => by
    obtain ⟨ρ, E, M, er, sr, h⟩ := h
    refine ⟨ρ, E, M, er, sr, post_imp h fun ρ1 H1 x M1 e1 s1 h1 v1 r1 => ?_⟩
    obtain ⟨ρ2, M2, r, b, s2, r2, hb, q⟩ := h1 v1 r1
    obtain ⟨u, k1, k2⟩ := isTy_kit ho s2 r2 hb
    exact ⟨v1, .ty (tyName t), u, .type (tyName t), b, rfl, .ty _, k1, k2, q⟩
theorem isTyC_not {c : Ctx} {M : Store} {x : PV} {t : Ty} (ho : isOwn t = false) : isTyC c M x t = isTy M x t := by cases t <;> first | rfl | (cases ho; done)
theorem e_isi (ho : isOwn t = false) (ha : SE X W c e ea) (hg : Gl X "isinstance") (hm : X.mg "isinstance" = none) (hgt : Gl X (tyName t)) (hmt : X.mg (tyName t) = none) (hvt : bootBuiltins (tyName t) = some (.type (tyName t)))
    (hnt : ((tyName t : Str)) ≠ "__name__") (hdt : (((tyName t : Str)) == ("__debug__" : Str)) = false) (hs : starEach [e, .Name (tyName t) q2] X.env = (false, eval e X.env) :: starEach [.Name (tyName t) q2] X.env) :
    SE X W c (.Call (.Name "isinstance" p) [e, .Name (tyName t) q2] [] pos) (.isi ea t) :=
  pe_imp (isi_base ho ha hg hm hgt hmt hvt hnt hdt hs) fun σ H Q h => by
    obtain ⟨ρ, E, M, er, sr, h⟩ := h
    refine ⟨ρ, E, M, er, sr, post_imp (post_bind h) fun ρ1 H1 x M1 e1 s1 h1 v1 r1 => ?_⟩
    obtain ⟨b, hb, q⟩ := post_B s1 h1
    rw [isTyC_not ho] at hb
    exact ⟨ρ1, M1, x, b, s1, r1, hb, q⟩
end
end Wn
end
section
/-! So9: what is walked, comprehensions, loops, statements. -/
namespace Wn
open PySem PySem.Spec PyProof.Rows L2

/-! ### less than an extension keeps what stands for what -/
structure Kp (ρ : List Addr) (H : Hp) (ρ' : List Addr) (H' : Hp) : Prop where
  tup : ∀ a xs, H a = some (.tup xs) → H' a = some (.tup xs)
  frz : ∀ a o u, H a = some (.frz o u) → H' a = some (.frz o u)
  get : ∀ (n : Nat) (a : Addr), ρ[n]? = some a → ρ'[n]? = some a
section
variable {K : PySem.W.Frag} {mg : Str → Option Value} {H H' : Hp} {ρ ρ' : List Addr} {M : Store}
theorem Kp.sq (k : Kp ρ H ρ' H') {a : Addr} {xs : List V} (h : SqT K H a xs) : SqT K H' a xs := by
  rcases h with (h | ⟨o, h⟩) | h
  · exact Or.inl (Or.inl (k.tup _ _ h))
  · exact Or.inl (Or.inr ⟨o, k.frz _ _ _ h⟩)
  · exact Or.inr h
theorem Kp.st (k : Kp ρ H ρ' H') {a : Addr} {xs : List V} (h : Still K H a xs) : Still K H' a xs := by
  rcases h with ⟨o, h⟩ | h
  · exact Or.inl ⟨o, k.frz _ _ _ h⟩
  · exact Or.inr h
mutual
theorem RP.kp (k : Kp ρ H ρ' H') : ∀ {p : PV} {v : V}, RP K H ρ p v → RP K H' ρ' p v
  | _, _, .non => .non
  | _, _, .bl b => .bl b
  | _, _, .int i => .int i
  | _, _, .str x => .str x
  | _, _, .tup h r => .tup (k.sq h) (RPs.kp k r)
  | _, _, .loc h => .loc (k.get _ _ h)
  | _, _, .fl h => .fl (k.st h)
theorem RPs.kp (k : Kp ρ H ρ' H') : ∀ {ps : List PV} {vs : List V}, RPs K H ρ ps vs → RPs K H' ρ' ps vs
  | _, _, .nil => .nil
  | _, _, .cons h r => .cons (RP.kp k h) (RPs.kp k r)
end
theorem RKV.kp (k : Kp ρ H ρ' H') : ∀ {ps : List (PV × PV)} {vs : List (Key × V)}, RKV K H ρ ps vs → RKV K H' ρ' ps vs
  | _, _, .nil => .nil
  | _, _, .cons q h r => .cons q (RP.kp k h) (RKV.kp k r)
theorem RFs.kp (k : Kp ρ H ρ' H') : ∀ {ps : List (Str × PV)} {vs : List (Str × V)}, RFs K H ρ ps vs → RFs K H' ρ' ps vs
  | _, _, .nil => .nil
  | _, _, .cons h r => .cons (RP.kp k h) (RFs.kp k r)
theorem OR.kp (k : Kp ρ H ρ' H') {a b : Addr} {o : MO} (h : OR K mg H ρ a o) (hb : H' b = H a) : OR K mg H' ρ' b o := by
  cases o with
  | lst xs =>
    obtain ⟨vs, h1, h2⟩ := h
    exact ⟨vs, hb.trans h1, h2.kp k⟩
  | dic kvs =>
    obtain ⟨us, h1, h2⟩ := h
    exact ⟨us, hb.trans h1, h2.kp k⟩
  | ins C fs =>
    obtain ⟨Ca, dx, us, h1, h2, h3⟩ := h
    exact ⟨Ca, dx, us, hb.trans h1, h2, h3.kp k⟩
theorem SR.kp (S : SR K mg H ρ M) (k : Kp ρ H ρ H') (h : ∀ a ∈ ρ, H' a = H a) : SR K mg H' ρ M :=
  ⟨S.len, S.nd, fun n a o h1 h2 => (S.obj n a o h1 h2).kp k (h a (List.mem_of_getElem? h1))⟩
theorem ER.kp {E : Env} {σ : L2.St} (k : Kp ρ H ρ' H') (h : ER K H ρ E σ) : ER K H' ρ' E σ :=
  ⟨h.1, fun i p q => by obtain ⟨v, a, b⟩ := h.2 i p q; exact ⟨v, a, b.kp k⟩⟩
theorem Ext.kp (mv : Mv H ρ) (e : Ext ρ H ρ' H') : Kp ρ H ρ' H' :=
  ⟨fun a xs h => e.keep a _ (fun z => (mv a z _ h).1 xs rfl) h, fun a o u h => e.keep a _ (fun z => (mv a z _ h).2 _ _ rfl) h, fun _ _ h => e.get h⟩
/-- a list that is none of ours is written -/
theorem kp_list {D : Addr} {l l' : List V} (h : H D = some (.lst l)) : Kp ρ H ρ (upd H D (.lst l')) :=
  ⟨fun a xs e => by rw [upd_ne (fun z => by rw [z, h] at e; cases e)]; exact e, fun a o u e => by rw [upd_ne (fun z => by rw [z, h] at e; cases e)]; exact e, fun _ _ h => h⟩
/-- the heap without D -/
def hide (D : Addr) (H : Hp) : Hp := fun b => if b = D then none else H b
theorem hide_ne {D b : Addr} (h : b ≠ D) : hide D H b = H b := if_neg h
theorem hide_self {D : Addr} : hide D H D = none := if_pos rfl
theorem ext_hide {D : Addr} (e : Ext ρ H ρ' H') : Ext ρ (hide D H) ρ' (hide D H') := by
  obtain ⟨τ, e1, f1⟩ := e.pre
  refine ⟨⟨τ, e1, fun a ha => ⟨(f1 a ha).1, ?_⟩⟩, fun a o ha h => ?_⟩
  · by_cases hd : a = D
    · rw [hd]; exact hide_self
    · rw [hide_ne hd]; exact (f1 a ha).2
  · by_cases hd : a = D
    · rw [hd, hide_self] at h; cases h
    · rw [hide_ne hd] at h ⊢; exact e.keep a o ha h
theorem hide_upd {D : Addr} {o : HO} : hide D (upd H D o) = hide D H := by
  funext b
  by_cases hd : b = D
  · rw [hd, hide_self, hide_self]
  · rw [hide_ne hd, hide_ne hd, upd_ne hd]
theorem hide_new {D : Addr} (h : H D = none) : hide D H = H := by
  funext b
  by_cases hd : b = D
  · rw [hd, hide_self, h]
  · rw [hide_ne hd]
theorem ext_shown {D : Addr} (hD : D ∉ ρ) : Ext ρ (hide D H) (ρ ++ [D]) H :=
  ⟨⟨[D], rfl, fun a h => by cases List.mem_singleton.mp h; exact ⟨hD, hide_self⟩⟩, fun a o _ h => by
    by_cases hd : a = D
    · rw [hd, hide_self] at h; cases h
    · rw [hide_ne hd] at h; exact h⟩
/-- D becomes one of ours -/
theorem SR.shown {D : Addr} {ps : List PV} {vs : List V} (S : SR K mg H ρ M) (hD : D ∉ ρ) (h : H D = some (.lst vs)) (r : RPs K H ρ ps vs) : SR K mg H (ρ ++ [D]) (M ++ [.lst ps]) := by
  have k : Kp ρ H (ρ ++ [D]) H := ⟨fun _ _ h => h, fun _ _ _ h => h, fun n a h => by rw [List.getElem?_append_left (List.getElem?_eq_some_iff.mp h).1]; exact h⟩
  refine ⟨by rw [List.length_append, List.length_append, S.len]; rfl, ?_, fun n a q h1 h2 => ?_⟩
  · exact List.nodup_append.mpr ⟨S.nd, (List.nodup_cons.mpr ⟨(fun z => nomatch z), List.nodup_nil⟩), fun x hx y hy => by cases List.mem_singleton.mp hy; exact fun z => hD (z ▸ hx)⟩
  · by_cases hn : n < ρ.length
    · rw [List.getElem?_append_left hn] at h1
      rw [List.getElem?_append_left (by rw [← S.len]; exact hn)] at h2
      exact (S.obj n a q h1 h2).kp k rfl
    · rw [List.getElem?_append_right (by omega)] at h1
      rw [List.getElem?_append_right (by have := S.len; omega)] at h2
      have hk : n - ρ.length = 0 := by
        have := (List.getElem?_eq_some_iff.mp h1).1
        simp at this; omega
      rw [hk] at h1
      rw [← S.len, hk] at h2
      simp at h1 h2
      subst h1 h2
      exact ⟨vs, h, r.kp k⟩
end

/-! ### what is walked -/
/-- J tells these items, while w stands and Src -/
structure ItR (K : PySem.W.Frag) (mg : Str → Option Value) (J : It) (xs : List PV) (w : Watch) (Src : List Addr → Hp → Prop) : Prop where
  stay : ∀ ρ H ρ' H', Kp ρ H ρ' H' → Src ρ H → Src ρ' H'
  go : ∀ ρ H M i, SR K mg H ρ M → Src ρ H → w.ok M = true → i < xs.length → J.go i H
  yld : ∀ ρ H M i x H', SR K mg H ρ M → Src ρ H → w.ok M = true → i < xs.length → J.yld i H x H' → ∃ p, xs[i]? = some p ∧ Ext ρ H ρ H' ∧ SR K mg H' ρ M ∧ RP K H' ρ p x
  stop : ∀ ρ H M i, SR K mg H ρ M → Src ρ H → w.ok M = true → xs.length ≤ i → J.stop i H
section
variable (K : PySem.W.Frag) (mg : Str → Option Value) (W : EW)
def tI (r : Env → Store → Res (List PV × Watch)) : TI := fun σ H R => ∃ ρ E M, ER K H ρ E σ ∧ SR K mg H ρ M ∧ post K mg W σ H ρ (r E M) (fun ρ' H' w _ => ∀ J Src, ItR K mg J w.1 w.2 Src → Src ρ' H' → R J H')
end
section
variable {K : PySem.W.Frag} {mg : Str → Option Value}
theorem it_tup {a : Addr} {xs : List PV} : ItR K mg (Itt K a) xs none (fun ρ H => ∃ vs, SqT K H a vs ∧ RPs K H ρ xs vs) where
  stay := fun ρ H ρ' H' k ⟨vs, h, r⟩ => ⟨vs, k.sq h, r.kp k⟩
  go := fun ρ H M i S ⟨vs, h, r⟩ _ hi => by
    obtain ⟨v, h1, _⟩ := r.get (List.getElem?_eq_getElem hi)
    exact ⟨vs, v, h, h1⟩
  yld := fun ρ H M i x H' S ⟨vs, h, r⟩ _ hi ⟨e, hy⟩ => by
    subst e
    obtain ⟨v, h1, h2⟩ := r.get (List.getElem?_eq_getElem hi)
    have := hy vs h
    rw [h1] at this; cases this
    exact ⟨_, List.getElem?_eq_getElem hi, Ext.refl _ _, S, h2⟩
  stop := fun ρ H M i S ⟨vs, h, r⟩ _ hi => ⟨vs, h, by rw [← r.length]; exact hi⟩
theorem it_list {a : Addr} {n : Nat} {xs : List PV} : ItR K mg (Itl K a) xs (some (n, xs)) (fun ρ _ => ρ[n]? = some a) where
  stay := fun ρ H ρ' H' k h => k.get _ _ h
  go := fun ρ H M i S h hw hi => by
    obtain ⟨vs, e1, r⟩ := S.lst h (of_decide_eq_true hw)
    obtain ⟨v, h1, _⟩ := r.get (List.getElem?_eq_getElem hi)
    exact ⟨vs, v, SqL.of e1, h1⟩
  yld := fun ρ H M i x H' S h hw hi ⟨e, hy⟩ => by
    subst e
    obtain ⟨vs, e1, r⟩ := S.lst h (of_decide_eq_true hw)
    obtain ⟨v, h1, h2⟩ := r.get (List.getElem?_eq_getElem hi)
    have := hy vs (SqL.of e1)
    rw [h1] at this; cases this
    exact ⟨_, List.getElem?_eq_getElem hi, Ext.refl _ _, S, h2⟩
  stop := fun ρ H M i S h hw hi => by
    obtain ⟨vs, e1, r⟩ := S.lst h (of_decide_eq_true hw)
    exact ⟨vs, SqL.of e1, by rw [← r.length]; exact hi⟩
theorem it_str {x : Str} : ItR K mg (Its x) (signs x) none (fun _ _ => True) where
  stay := fun _ _ _ _ _ h => h
  go := fun ρ H M i S h hw hi => by
    have : i < x.cps.size := by simpa [signs] using hi
    exact this
  yld := fun ρ H M i v H' S h hw hi ⟨e, ch, h1, h2⟩ => by
    subst e h2
    refine ⟨.str ⟨#[ch]⟩, ?_, Ext.refl _ _, S, .str _⟩
    simp only [signs, List.getElem?_map]
    have : x.cps.toList[i]? = some ch := by simpa using h1
    rw [this]; rfl
  stop := fun ρ H M i S h hw hi => by
    have : x.cps.size ≤ i := by simpa [signs] using hi
    exact this
theorem it_range {lo hi : Int} : ItR K mg (Itr lo (hi - lo).toNat) (rangeOf lo hi) none (fun _ _ => True) where
  stay := fun _ _ _ _ _ h => h
  go := fun ρ H M i S h hw hi' => by
    have : i < (hi - lo).toNat := by simpa [rangeOf] using hi'
    exact this
  yld := fun ρ H M i v H' S h hw hi' ⟨e, h2⟩ => by
    subst e h2
    have : i < (hi - lo).toNat := by simpa [rangeOf] using hi'
    exact ⟨.int (lo + i), by simp [rangeOf, this], Ext.refl _ _, S, .int _⟩
  stop := fun ρ H M i S h hw hi' => by
    have : (hi - lo).toNat ≤ i := by simpa [rangeOf] using hi'
    exact this
theorem enumFrom_length : ∀ (k : Nat) (xs : List PV), (enumFrom k xs).length = xs.length
  | _, [] => rfl
  | k, x :: xs => by rw [enumFrom, List.length_cons, List.length_cons, enumFrom_length]
theorem enumFrom_get : ∀ (k : Nat) (xs : List PV) (i : Nat), (enumFrom k xs)[i]? = (xs[i]?).map fun x => .tup [.int ((k + i : Nat) : Int), x]
  | _, [], i => by simp [enumFrom]
  | k, x :: xs, 0 => by simp [enumFrom]
  | k, x :: xs, i + 1 => by
    rw [enumFrom, List.getElem?_cons_succ, List.getElem?_cons_succ, enumFrom_get (k + 1) xs i]
    have : k + 1 + i = k + (i + 1) := by omega
    rw [this]
theorem it_enumL {a : Addr} {n : Nat} {xs : List PV} : ItR K mg (Ite K a) (enumFrom 0 xs) (some (n, xs)) (fun ρ _ => ρ[n]? = some a) where
  stay := fun ρ H ρ' H' k h => k.get _ _ h
  go := fun ρ H M i S h hw hi => by
    rw [enumFrom_length] at hi
    obtain ⟨vs, e1, r⟩ := S.lst h (of_decide_eq_true hw)
    obtain ⟨v, h1, _⟩ := r.get (List.getElem?_eq_getElem hi)
    exact ⟨vs, v, SqL.of e1, h1⟩
  yld := fun ρ H M i x H' S h hw hi ⟨T, y, ex, hT, eH, hy⟩ => by
    subst ex eH
    rw [enumFrom_length] at hi
    obtain ⟨vs, e1, r⟩ := S.lst h (of_decide_eq_true hw)
    obtain ⟨v, h1, h2⟩ := r.get (List.getElem?_eq_getElem hi)
    have := hy vs (SqL.of e1)
    rw [h1] at this; cases this
    refine ⟨.tup [.int i, xs[i]], ?_, ext_new hT, S.new hT, new_tup S hT (.cons (.int _) (.cons h2 .nil))⟩
    rw [enumFrom_get, List.getElem?_eq_getElem hi, Nat.zero_add]; rfl
  stop := fun ρ H M i S h hw hi => by
    rw [enumFrom_length] at hi
    obtain ⟨vs, e1, r⟩ := S.lst h (of_decide_eq_true hw)
    exact ⟨vs, SqL.of e1, by rw [← r.length]; exact hi⟩
end

section
variable {X : Cx} {W : EW} {c : Ctx} {tg e a b : Expr} {ea eb : Ex}
abbrev SI (X : Cx) (W : EW) (c : Ctx) (tg e : Expr) (m : Ix) : Prop := PI X tg e (tI X.K X.mg W (evI c m))
theorem i_of (h : SE X W c e ea) : SI X W c tg e (.of ea) :=
  pi_imp (pi_either (pi_either (pi_list h) (pi_tup h)) (pi_str h)) fun σ H R h => by
    obtain ⟨ρ, E, M, er, sr, h⟩ := h
    have h : post X.K X.mg W σ H ρ ((evE c ea E M).bind fun x M1 => lift M1 (walked M1 x)) (fun ρ' H' w _ => ∀ J Src, ItR X.K X.mg J w.1 w.2 Src → Src ρ' H' → R J H') := h
    cases hx : evE c ea E M with
    | err x M1 =>
      rw [hx] at h
      exact Or.inl (Or.inl ⟨ρ, E, M, er, sr, by rw [hx]; exact h⟩)
    | bad => rw [hx] at h; exact h.elim
    | ok x M1 =>
      rw [hx, Res.bind_ok] at h
      obtain ⟨w, hw, h2⟩ := post_lift h
      cases x with
      | tup xs =>
        cases hw
        refine Or.inl (Or.inr ⟨ρ, E, M, er, sr, ?_⟩)
        rw [hx]
        intro ρ1 H1 e1 s1 v1 r1
        cases r1 with
        | @tup t vs _ ht rt => exact ⟨t, rfl, ⟨vs, ht⟩, h2 ρ1 H1 e1 s1 _ _ it_tup ⟨vs, ht, rt⟩⟩
      | str s =>
        cases hw
        refine Or.inr ⟨ρ, E, M, er, sr, ?_⟩
        rw [hx]
        intro ρ1 H1 e1 s1 v1 r1
        cases r1
        exact ⟨s, rfl, h2 ρ1 H1 e1 s1 _ _ it_str trivial⟩
      | loc n =>
        simp only [walked] at hw
        split at hw
        · rename_i xs hm
          cases hw
          refine Or.inl (Or.inl ⟨ρ, E, M, er, sr, ?_⟩)
          rw [hx]
          intro ρ1 H1 e1 s1 v1 r1
          cases r1 with
          | @loc _ t ht =>
            obtain ⟨vs, g1, _⟩ := s1.lst ht hm
            exact ⟨t, rfl, ⟨vs, SqL.of g1⟩, h2 ρ1 H1 e1 s1 _ _ it_list ht⟩
        · cases hw
      | _ => cases hw
theorem bnd {i : Int} (h : inBound i = true) : -(2 ^ 62) ≤ i ∧ i < 2 ^ 62 := (inBound_iff i).1 h
theorem i_rng1 {p pos : Pos} (hg : Gl X "range") (hm : X.mg "range" = none) (h : SE X W c a ea) (hs : starEach [a] X.env = [(false, eval a X.env)]) : SI X W c tg (.Call (.Name "range" p) [a] [] pos) (.rng1 ea) :=
  pi_imp (pi_range1 hg hm (pa_cons h pa_nil hs) hs) fun σ H R h => by
    obtain ⟨ρ, E, M, er, sr, h⟩ := h
    refine ⟨ρ, E, M, er, sr, post_imp (post_bind h) fun ρ1 H1 x M1 e1 s1 h1 v1 r1 => ?_⟩
    cases r1 with
    | int i =>
      have h1 : post X.K X.mg W σ H1 ρ1 (if inBound i = true then .ok (rangeOf 0 i, none) M1 else .bad) (fun ρ' H' w _ => ∀ J Src, ItR X.K X.mg J w.1 w.2 Src → Src ρ' H' → R J H') := h1
      split at h1
      · obtain ⟨b1, b2⟩ := bnd ‹_›
        refine ⟨i, rfl, b1, b2, ?_⟩
        have q := post_ok h1 s1 _ _ (it_range (lo := 0) (hi := i)) trivial
        rw [Int.sub_zero] at q
        exact q
      · exact h1.elim
    | _ => exact h1.elim
theorem i_rng2 {p pos : Pos} (hg : Gl X "range") (hm : X.mg "range" = none) (h : SE X W c a ea) (h' : SE X W c b eb) (hs : starEach [a, b] X.env = [(false, eval a X.env), (false, eval b X.env)]) (hs2 : starEach [b] X.env = [(false, eval b X.env)]) :
    SI X W c tg (.Call (.Name "range" p) [a, b] [] pos) (.rng2 ea eb) :=
  pi_imp (pi_range2 hg hm (pa_cons h (pa_cons h' pa_nil hs2) (by rw [hs2]; exact hs)) hs hs2) fun σ H R h => by
    obtain ⟨ρ, E, M, er, sr, h⟩ := h
    refine ⟨ρ, E, M, er, sr, post_imp (post_bind h) fun ρ1 H1 x M1 e1 s1 h1 v1 r1 => ?_⟩
    refine ⟨ρ1, E, M1, er.ext sr.mv e1, s1, post_imp (post_bind h1) fun ρ2 H2 y M2 e2 s2 h2 v2 r2 => ?_⟩
    have r1 := r1.ext s1.mv e2
    cases r1 with
    | int i =>
      cases r2 with
      | int j =>
        have h2 : post X.K X.mg W σ H2 ρ2 (if (inBound i && inBound j) = true then .ok (rangeOf i j, none) M2 else .bad) (fun ρ' H' w _ => ∀ J Src, ItR X.K X.mg J w.1 w.2 Src → Src ρ' H' → R J H') := h2
        split at h2
        · rename_i hb
          obtain ⟨k1, k2⟩ := Bool.and_eq_true_iff.mp hb
          obtain ⟨b1, b2⟩ := bnd k1
          obtain ⟨b3, b4⟩ := bnd k2
          exact ⟨i, j, rfl, ⟨b1, b2, b3, b4⟩, post_ok h2 s2 _ _ it_range trivial⟩
        · exact h2.elim
      | _ => exact h2.elim
    | _ => cases r2 <;> exact h2.elim
end
end Wn
end
section
/-! SoE: enumerate of a tuple. -/
namespace Wn
open PySem PySem.Spec PyProof.Rows L2

theorem enum_new1 {v : Value} {ob : Obj} {Z : Heap → Prop} (B : Begins v ob Z) : Meets (Builtin.«enumerate.__new__» ⟨[.type "enumerate", v], []⟩) (fun _ R s => Z s.heap ∧
    R (.ok (.ret (.ref (s.heap.push ob).objs.size))) { s with heap := (s.heap.push ob).push { cls := .type "enumerate", data := .fields #[.none, .bool false, .ref s.heap.objs.size, rawInt 0, .none, .none] } }) :=
  .of_wp fun prog w A R s hz => by
    obtain ⟨hp, gs, dr, tks, oss⟩ := s
    obtain ⟨z1, z2⟩ := hz
    have hsub := sub_enumerate
    have step : ∀ {A' : Around} {E : Value → Shared → Prop} {Q : Value → Shared → Prop}, Q (.ref hp.objs.size) ⟨hp.push ob, gs, dr, tks, oss⟩ → wpAny (model prog w) A' (pyIter v) Q E ⟨hp, gs, dr, tks, oss⟩ :=
      fun q => B.iter prog w _ _ ⟨hp, gs, dr, tks, oss⟩ _ z1 q
    wp_walk using step
    refine wpAny_stack_any fun st => wpAny_pure ?_
    split
    · rename_i cc _ _ _ _ _
      cases (cc == Value.type "enumerate")
      all_goals
        wp_walk using step
        exact ⟨_, rfl, z2⟩
    · wp_walk using step
      exact ⟨_, rfl, z2⟩
section
variable {prog : Program} {w : World} {A : Around} {E : Value → Shared → Prop} {s : Shared}
theorem enum_call1 {v : Value} {ob : Obj} {Z : Heap → Prop} {Q : Value → Shared → Prop} (B : Begins v ob Z) (z : Z s.heap)
    (k : ∀ h', IsEnum h' (s.heap.objs.size + 1) s.heap.objs.size 0 .none → h'.get? s.heap.objs.size = some ob → (∀ b o, s.heap.get? b = some o → h'.get? b = some o) → Q (.ref (s.heap.objs.size + 1)) { s with heap := h' }) :
    wpAny (model prog w) A (call (.type "enumerate") [v]) Q E s := by
  refine callType_new F.called_enumerate (by decide) (F.typeCall_enumerate_1 _) (F.newCall_enumerate_1 _) (fun obj => F.args_object_init_2 obj _) F.entry_enumerate_new (enum_new1 B) ⟨z, ?_⟩
  have size1 : (s.heap.push ob).objs.size = s.heap.objs.size + 1 := Heap.size_push ..
  show _ ∧ _
  rw [size1]
  have isE : IsEnum ((s.heap.push ob).push { cls := .type "enumerate", data := .fields #[.none, .bool false, .ref s.heap.objs.size, rawInt 0, .none, .none] }) (s.heap.objs.size + 1) s.heap.objs.size 0 .none := by
    have q := Heap.get?_push_size (s.heap.push ob) (o := { cls := .type "enumerate", data := .fields #[.none, .bool false, .ref s.heap.objs.size, rawInt 0, .none, .none] }) rfl
    rwa [size1] at q
  exact ⟨⟨_, isE, rfl⟩, k _ isE (Heap.get?_push_of_some _ (Heap.get?_push_size _ B.free)) fun b o e => Heap.get?_push_of_some _ (Heap.get?_push_of_some _ e)⟩
end

/-- the tuple at a, each item in a new pair -/
def ItE (K : PySem.W.Frag) (a : Addr) : It :=
  ⟨fun i H => ∃ (xs : List V) (x : V), SqT K H a xs ∧ xs[i]? = some x, fun i H v H' => ∃ T x, v = .ref T ∧ H T = none ∧ H' = upd H T (.tup [.int (i : Nat), x]) ∧ ∀ xs, SqT K H a xs → xs[i]? = some x, fun i H => ∃ xs : List V, SqT K H a xs ∧ xs.length ≤ i⟩

theorem turn_enumT {P : Program} {w : World} {K : PySem.W.Frag} {elts : List Expr} {kk : Nat} {tpos : Pos} (a e it : Addr) :
    Turn P w K (.Tuple elts kk tpos) (ItE K a) [e, it] e (fun i h => (∃ old, IsEnum h e it ((i : Nat) : Int) old) ∧ h.IsTupleIter it a i ∧ e ≠ it) where
  mem := List.mem_cons_self
  obj := fun i h st b hb => by
    obtain ⟨⟨old, h1⟩, ⟨ob, h2, h3, h4⟩, _⟩ := st
    rcases List.mem_cons.mp hb with rfl | hb
    · exact ⟨_, h1, fun v q => nomatch q⟩
    · cases List.mem_singleton.mp hb
      exact ⟨ob, h2, fun v q => by rw [h4] at q; cases q⟩
  keep := fun i h h' st k => by
    obtain ⟨⟨old, h1⟩, h2, h3⟩ := st
    exact ⟨⟨old, k e (by simp) _ h1⟩, h2.at fun o q => k it (by simp) o q, h3⟩
  item := by
    intro X hP hw hK hc i pins s σ H E I hf st hg
    subst hP hw hK
    obtain ⟨⟨old, h1⟩, h2, h3⟩ := st
    obtain ⟨xs, x, g1, g2⟩ := hg
    obtain ⟨its, rv, ht, _⟩ := I.tuple g1
    obtain ⟨u, hu, ru⟩ := rv.get g2
    have lt_e : e < s.heap.objs.size := Heap.lt_size h1
    have lt_i : it < s.heap.objs.size := by obtain ⟨_, q, _⟩ := h2; exact Heap.lt_size q
    have ne_it : a ≠ it := by
      intro z; subst z
      obtain ⟨o1, k1, k2, k3⟩ := h2
      obtain ⟨o2, k4, k5, _⟩ := ht
      rw [k1] at k4; cases k4
      rw [k2] at k5
      exact absurd k5 (by decide)
    have ne_e : e ∉ [it, a] := by
      intro z
      rcases List.mem_cons.mp z with z | z
      · exact h3 z
      · have z' := List.mem_singleton.mp z
        obtain ⟨o2, k4, k5, _⟩ := ht
        have h1' : s.heap.get? e = _ := h1
        rw [← z', h1'] at k4; cases k4
        have k6 : Value.type "enumerate" = Value.type "tuple" := k5
        exact absurd k6 (by decide)
    have hi : i < its.toArray.size := by
      have := (List.getElem?_eq_some_iff.mp hu).1
      simpa using this
    refine wpAny_pyNext_enum_itemD (Draws.tuple (prog := X.prog) (w := X.w) (A := X.A.in1) (I.ok.hd hc) it a ne_it its.toArray) h1 ⟨h2, ht⟩ hi h3 ne_e fun y h' tk py ho hs hT hsz hk => ?_
    obtain rfl : y = u := by
      have : its[i]? = some y := by simpa using py
      rw [hu] at this; cases this; rfl
    refine ⟨_, rfl, wpAny_letOwnedTupleGo_enum (s := { s with heap := h', toks := tk + 1 }) ho fun h'' he' sb => ?_⟩
    have pair : h''.get? s.heap.objs.size = some { cls := .type "tuple", data := .seq #[.int i tk, y] } := (sb.2 _ (Nat.ne_of_gt lt_e)).trans hT
    have made : ObjOk X.prog X.w (upd H s.heap.objs.size (.tup [.int (i : Nat), x])) h'' s.heap.objs.size (.tup [.int (i : Nat), x]) :=
      ⟨by show 2 ≤ sizeLine; decide, [.int i tk, y], .cons ⟨_, rfl⟩ (.cons ru .nil), ⟨_, pair, rfl, _, rfl⟩⟩
    have I2 : Inv X pins σ (upd H s.heap.objs.size (.tup [.int (i : Nat), x])) { s with heap := h'', toks := tk + 1 } :=
      I.turnedNew (ch := [e, it]) (fun b ob hb q => (sb.2 b (fun z => hb (by simp [z]))).trans (hk b ob (fun z => hb (by simp [z])) (fun z => hb (by simp [z])) q)) hf (Nat.le_refl _) made
    refine ⟨.ref s.heap.objs.size, _, I2, rfl, ⟨_, x, rfl, I.hok.fresh (Nat.le_refl _), rfl, fun ys hy => by rw [I.tuple_inj hy g1]; exact g2⟩, ⟨⟨y, ?_⟩, hs.1.at fun o q => (sb.2 it (Ne.symm h3)).trans q, h3⟩, fun b hb => ?_⟩
    · rw [show ((i + 1 : Nat) : Int) = (i : Int) + 1 by omega]
      exact he'
    · have lt_b : b < s.heap.objs.size := by
        rcases List.mem_cons.mp hb with rfl | hb
        · exact lt_e
        · cases List.mem_singleton.mp hb; exact lt_i
      rw [upd_ne (Nat.ne_of_lt lt_b)]
      exact (hf b hb).1
  done := by
    intro X hP hw hK hc i pins s σ H E I hf st hg
    subst hP hw hK
    obtain ⟨⟨old, h1⟩, h2, h3⟩ := st
    obtain ⟨xs, g1, g2⟩ := hg
    obtain ⟨its, rv, ht, _⟩ := I.tuple g1
    obtain ⟨f0, f1, f2, f3, f4, f5⟩ := hf it (by simp)
    have hl := rv.length
    have hT : s.TypeIs (.ref e) "enumerate" := ⟨_, h1, rfl⟩
    unfold pyNext
    refine wpAny_bind (wpAny_attempt (wpAny_callSpecial?_slot (name := Str.ofString "__next__") hT F.slot_enumerate_next
      (wpAny_call_entry F.slot_enumerate_next hT F.entry_enumerate_next ?_ (F.args_enumerate_next_1 _))))
    show wpAny _ _ (field (.ref e) 2 >>= _) _ _ _
    refine wpAny_bind (wpAny_field h1 rfl (x := .ref it) rfl ?_)
    refine wpAny_bind (wpAny_nextOf_tuple_end (I.ok.hd hc) h2 ht (by simp; omega) fun h' x he' hx' => ?_)
    obtain ⟨o, ho, hcl⟩ := hx'
    refine wpAny_bind (wpAny_isInstance (T := "StopIteration") (b := true) ⟨o, ho, hcl⟩ isSubtype_stop ?_)
    exact wpAny_pure ⟨rfl, I.turned (t' := s.toks) (fun b o hb q => he' b o hb q) f0 f1 f3 f4 f5⟩
  self := fun A i s Q E st h => by
    obtain ⟨⟨_, he⟩, _⟩ := st
    exact wpAny_pyIter_enum he h
def iEnumT (K : PySem.W.Frag) (ta : TA) : TI := fun σ H R => ta σ H fun vs H1 => ∃ a xs, vs = [.ref a] ∧ SqT K H1 a xs ∧ R (ItE K a) H1
theorem pi_enumT {X : Cx} {e : Expr} {ta : TA} {p pos tpos : Pos} {elts : List Expr} {kk : Nat} (hg : Gl X "enumerate") (hm : X.mg "enumerate" = none) (ha : PA X [e] ta) (hs : starEach [e] X.env = [(false, eval e X.env)]) :
    PI X (.Tuple elts kk tpos) (.Call (.Name "enumerate" p) [e] [] pos) (iEnumT X.K ta) := by
  refine ⟨fun pins s σ H R I h => ?_⟩
  refine Call_ (ld_blt I hg hm boot_enumerate (PyProof.Rows.callWith_type1 (thn (ha.run pos pins s σ H _ I h) fun us s1 ⟨vs, H1, I1, r1, q1⟩ => ?_) hs rfl))
  obtain ⟨a, xs, ex, hq, q⟩ := q1
  subst ex
  obtain ⟨u, rfl, ru⟩ := vals1 r1
  cases ru
  obtain ⟨its, rv, ht, _⟩ := I1.tuple hq
  refine enum_call1 (begins_tuple a its.toArray) ht fun h' he hit hk => wpAny_pyIter_enum he ?_
  have I2 : Inv X pins σ H1 { s1 with heap := h' } := I1.kept (t' := s1.toks) hk
  refine ⟨s1.heap.objs.size + 1, [s1.heap.objs.size + 1, s1.heap.objs.size], _, _, H1, rfl, I2, turn_enumT a (s1.heap.objs.size + 1) s1.heap.objs.size, ⟨⟨.none, he⟩, ⟨_, hit, rfl, rfl⟩, Nat.succ_ne_self _⟩, fun b hb => ?_, q⟩
  have above : s1.heap.objs.size ≤ b := by
    rcases List.mem_cons.mp hb with rfl | hb
    · exact Nat.le_succ _
    · cases List.mem_singleton.mp hb; exact Nat.le_refl _
  exact I1.fpOk above (I1.hok.fresh above)
section
variable {K : PySem.W.Frag} {mg : Str → Option Value}
theorem it_enumT {a : Addr} {xs : List PV} : ItR K mg (ItE K a) (enumFrom 0 xs) none (fun ρ H => ∃ vs, SqT K H a vs ∧ RPs K H ρ xs vs) where
  stay := fun ρ H ρ' H' k ⟨vs, h, r⟩ => ⟨vs, k.sq h, r.kp k⟩
  go := fun ρ H M i S ⟨vs, h, r⟩ _ hi => by
    rw [enumFrom_length] at hi
    obtain ⟨v, h1, _⟩ := r.get (List.getElem?_eq_getElem hi)
    exact ⟨vs, v, h, h1⟩
  yld := fun ρ H M i x H' S ⟨vs, h, r⟩ _ hi ⟨T, y, ex, hT, eH, hy⟩ => by
    subst ex eH
    rw [enumFrom_length] at hi
    obtain ⟨v, h1, h2⟩ := r.get (List.getElem?_eq_getElem hi)
    have := hy vs h
    rw [h1] at this; cases this
    refine ⟨.tup [.int i, xs[i]], ?_, ext_new hT, S.new hT, new_tup S hT (.cons (.int _) (.cons h2 .nil))⟩
    rw [enumFrom_get, List.getElem?_eq_getElem hi, Nat.zero_add]; rfl
  stop := fun ρ H M i S ⟨vs, h, r⟩ _ hi => by
    rw [enumFrom_length] at hi
    exact ⟨vs, h, by rw [← r.length]; exact hi⟩
end
section
variable {X : Cx} {W : EW} {c : Ctx} {e : Expr} {ea : Ex}
theorem i_enum {p pos tpos : Pos} {elts : List Expr} {kk : Nat} (hg : Gl X "enumerate") (hm : X.mg "enumerate" = none) (h : SE X W c e ea) (hs : starEach [e] X.env = [(false, eval e X.env)]) :
    SI X W c (.Tuple elts kk tpos) (.Call (.Name "enumerate" p) [e] [] pos) (.enum ea) :=
  pi_imp (pi_either (pi_enum hg hm (pa_cons h pa_nil hs) hs) (pi_enumT hg hm (pa_cons h pa_nil hs) hs)) fun σ H R h => by
    obtain ⟨ρ, E, M, er, sr, h⟩ := h
    have h : post X.K X.mg W σ H ρ ((evE c ea E M).bind fun x M1 => lift M1 (walkedE M1 x)) (fun ρ' H' w _ => ∀ J Src, ItR X.K X.mg J w.1 w.2 Src → Src ρ' H' → R J H') := h
    cases hx : evE c ea E M with
    | err x M1 =>
      rw [hx] at h
      exact Or.inl ⟨ρ, E, M, er, sr, by rw [hx]; exact h⟩
    | bad => rw [hx] at h; exact h.elim
    | ok x M1 =>
      rw [hx, Res.bind_ok] at h
      obtain ⟨w, hw, h2⟩ := post_lift h
      cases x with
      | tup xs =>
        cases hw
        refine Or.inr ⟨ρ, E, M, er, sr, ?_⟩
        rw [hx]
        intro ρ1 H1 e1 s1 v1 r1
        cases r1 with
        | @tup t vs _ ht rt => exact ⟨t, vs, rfl, ht, h2 ρ1 H1 e1 s1 _ _ it_enumT ⟨vs, ht, rt⟩⟩
      | loc n =>
        simp only [walkedE] at hw
        split at hw
        · rename_i xs hm
          cases hw
          refine Or.inl ⟨ρ, E, M, er, sr, ?_⟩
          rw [hx]
          intro ρ1 H1 e1 s1 v1 r1
          cases r1 with
          | @loc _ t ht =>
            obtain ⟨vs, g1, _⟩ := s1.lst ht hm
            exact ⟨t, vs, rfl, SqL.of g1, h2 ρ1 H1 e1 s1 _ _ it_enumL ht⟩
        · cases hw
      | _ => cases hw
end
end Wn
end
section
/-! So10: targets, comprehensions. -/
namespace Wn
open PySem PySem.Spec PyProof.Rows L2

def tgIx : Tg → List Nat
  | .nm i => [i]
  | .tup is => is
def gAll : List Nat → TGs
  | [] => gNil
  | i :: is => gCons (gName i) (gAll is)
def tgG (K : PySem.W.Frag) : Tg → TG
  | .nm i => gName i
  | .tup is => gTup K is.length (gAll is)
/-- the slots but those of D -/
def ERo (K : PySem.W.Frag) (H : Hp) (ρ : List Addr) (D : Nat → Prop) (E : Env) (σ : L2.St) : Prop := E.length = σ.length ∧ ∀ (i : Nat) (p : PV), ¬ D i → E[i]? = some (some p) → ∃ v, σ[i]? = some (some v) ∧ RP K H ρ p v
section
variable {K : PySem.W.Frag} {H : Hp} {ρ : List Addr} {E : Env} {σ : L2.St}
theorem ERo.set {D : Nat → Prop} (h : ERo K H ρ D E σ) {p : PV} {v : V} (r : RP K H ρ p v) (i : Nat) : ERo K H ρ (fun j => D j ∧ j ≠ i) (E.set i (some p)) (σ.set i (some v)) := by
  refine ⟨by rw [List.length_set, List.length_set]; exact h.1, fun j q hd e => ?_⟩
  by_cases hj : j = i
  · subst hj
    have hl : j < E.length := by have := (List.getElem?_eq_some_iff.mp e).1; rw [List.length_set] at this; exact this
    rw [List.getElem?_set_self hl] at e
    cases e
    exact ⟨v, List.getElem?_set_self (by rw [← h.1]; exact hl), r⟩
  · rw [List.getElem?_set_ne (fun z => hj z.symm)] at e ⊢
    exact h.2 j q (fun z => hd ⟨z, hj⟩) e
/-- behind a target's store -/
def Sets (is : List Nat) (σ σ' : L2.St) : Prop := σ'.length = σ.length ∧ ∀ j, j ∉ is → σ'[j]? = σ[j]?
theorem Sets.one (i : Nat) (v : Option V) (σ : L2.St) : Sets [i] σ (σ.set i v) := ⟨List.length_set, fun j h => List.getElem?_set_ne (fun z => h (by simp [z]))⟩
theorem gAll_read {Q : L2.St → Hp → Prop} : ∀ {is : List Nat} {ps : List PV} {vs : List V} {E E' : Env} {σ : L2.St} {D : Nat → Prop}, ERo K H ρ D E σ → RPs K H ρ ps vs → setTg.setAll is ps E = some E' →
    (∀ σ', ERo K H ρ (fun j => D j ∧ j ∉ is) E' σ' → Sets is σ σ' → Q σ' H) → gAll is vs σ H Q
  | [], ps, vs, E, E', σ, D, h, r, e, q => by
    cases r with
    | nil =>
      simp only [setTg.setAll] at e
      cases e
      exact ⟨rfl, q σ ⟨h.1, fun i p hd => h.2 i p (fun z => hd ⟨z, fun z => nomatch z⟩)⟩ ⟨rfl, fun _ _ => rfl⟩⟩
    | cons _ _ => cases e
  | i :: is, ps, vs, E, E', σ, D, h, r, e, q => by
    cases r with
    | nil => cases e
    | @cons p v ps vs hp rs =>
      simp only [setTg.setAll] at e
      refine ⟨v, vs, rfl, ?_⟩
      refine gAll_read (h.set hp i) rs e fun σ' h' s' => q σ' ⟨h'.1, fun j p hd => h'.2 j p fun z => hd ⟨z.1.1, fun w => ?_⟩⟩ ⟨s'.1.trans List.length_set, fun j hj => ?_⟩
      · rcases List.mem_cons.mp w with w | w
        · exact z.1.2 w
        · exact z.2 w
      · rw [s'.2 j (fun z => hj (List.mem_cons_of_mem _ z))]
        exact List.getElem?_set_ne (fun z => hj (by simp [z]))
theorem tg_read {g : Tg} {p : PV} {v : V} {E' : Env} {Q : L2.St → Hp → Prop} (h : ERo K H ρ (fun j => j ∈ tgIx g) E σ) (r : RP K H ρ p v) (e : setTg g p E = some E')
    (q : ∀ σ', ER K H ρ E' σ' → Sets (tgIx g) σ σ' → Q σ' H) : tgG K g v σ H Q := by
  cases g with
  | nm i =>
    cases e
    have h' := h.set r i
    exact q _ ⟨h'.1, fun j p => h'.2 j p (fun z => z.2 (List.mem_singleton.mp z.1))⟩ (Sets.one i _ σ)
  | tup is =>
    cases r with
    | @tup a vs xs ha ra =>
      refine ⟨a, vs, rfl, ha, ?_, gAll_read h ra e fun σ' h' s' => q σ' ⟨h'.1, fun j p => h'.2 j p (fun z => z.2 z.1)⟩ s'⟩
      have len : ∀ {is : List Nat} {xs : List PV} {E E' : Env}, setTg.setAll is xs E = some E' → is.length = xs.length := by
        intro is
        induction is with
        | nil => intro xs E E' e; cases xs with
          | nil => rfl
          | cons _ _ => cases e
        | cons i is ih => intro xs E E' e; cases xs with
          | nil => cases e
          | cons x xs => rw [List.length_cons, List.length_cons, ih e]
      rw [← ra.length, ← len e]
    | _ => cases e
theorem ER.o (h : ER K H ρ E σ) (D : Nat → Prop) : ERo K H ρ D E σ := ⟨h.1, fun i p _ => h.2 i p⟩
theorem wipe_get {σ : L2.St} : ∀ {vs : List Nat} {j : Nat}, j ∈ vs → j < σ.length → (wipe σ vs)[j]? = some none
  | v :: vs, j, h, hl => by
    have hw := wipe_length σ vs
    by_cases e : j = v
    · subst e
      exact List.getElem?_set_self (by rw [hw]; exact hl)
    · show ((wipe σ vs).set v none)[j]? = some none
      rw [List.getElem?_set_ne (fun z => e z.symm)]
      rcases List.mem_cons.mp h with h | h
      · exact absurd h e
      · exact wipe_get h hl
theorem wipe_eq {σ σ' : L2.St} {vs : List Nat} (hl : σ'.length = σ.length) (h : ∀ j, j ∉ vs → σ'[j]? = σ[j]?) : wipe σ' vs = wipe σ vs := by
  apply List.ext_getElem?
  intro j
  by_cases hj : j ∈ vs
  · by_cases hlt : j < σ.length
    · rw [wipe_get hj hlt, wipe_get hj (by rw [hl]; exact hlt)]
    · rw [List.getElem?_eq_none (by rw [wipe_length]; omega), List.getElem?_eq_none (by rw [wipe_length]; omega)]
  · rw [wipe_out hj, wipe_out hj, h j hj]
theorem ER.wiped (h : ER K H ρ E σ) {vs : List Nat} : ERo K H ρ (fun j => j ∈ vs) E (wipe σ vs) :=
  ⟨by rw [wipe_length]; exact h.1, fun i p hd e => by rw [wipe_out hd]; exact h.2 i p e⟩
end

/-! ### comprehensions -/
section
variable {K : PySem.W.Frag} {mg : Str → Option Value} {W W' : EW}
/-- one turn -/
abbrev lcStep (c : Ctx) (g : Tg) (E : Env) (cond : Ox) (elt : Ex) : PV → Store → Res (Option PV) := fun x M => match setTg g x E with
  | some E1 => (evC c cond E1 M).bind fun k M2 => if k = true then (evE c elt E1 M2).bind fun y M3 => .ok (some y) M3 else .ok none M2
  | none => .bad
theorem lc_read {c : Ctx} {g : Tg} {it : Ix} {cond : Ox} {elt : Ex} {σ : L2.St} {H : Hp} {Q : VK} (h : tE K mg W (evE c (.lc elt g it cond)) σ H Q) :
    tLc (tI K mg W (evI c it)) (tgG K g) (tT K mg W' (evC c cond)) (tE K mg W' (evE c elt)) (tgIx g) σ H Q := by
  obtain ⟨ρ, E, M, er, sr, h⟩ := h
  refine ⟨ρ, E, M, er, sr, post_imp (post_bind h) fun ρ1 H1 w M1 e1 s1 h1 J Src iR hSrc D hD => ?_⟩
  have er1 := er.ext sr.mv e1
  have hDn : D ∉ ρ1 := s1.notin hD
  have post1 : post K mg W σ H1 ρ1 ((lcGo w.2 (lcStep c g E cond elt) w.1 [] M1).bind fun ys M2 => .ok (.loc M2.length) (M2 ++ [.lst ys])) (gE K Q) := h1
  obtain ⟨xs, wt⟩ := w
  dsimp only at iR post1
  clear h1 h
  refine ⟨fun i m H => m = xs.length - i ∧ i ≤ xs.length ∧ ∃ ρ M acc vs, ER K H ρ E σ ∧ SR K mg H ρ M ∧ Src ρ H ∧ D ∉ ρ ∧ H D = some (.lst vs) ∧ RPs K H ρ acc vs ∧
    post K mg W σ (hide D H) ρ ((lcGo wt (lcStep c g E cond elt) (xs.drop i) acc M).bind fun ys M2 => .ok (.loc M2.length) (M2 ++ [.lst ys])) (gE K Q), ⟨xs.length, ?_⟩, fun i m H hW => ?_⟩
  · have k0 : Kp ρ1 H1 ρ1 (upd H1 D (.lst [])) := (ext_new hD).kp s1.mv
    refine ⟨rfl, Nat.zero_le _, ρ1, M1, [], [], er1.kp k0, s1.new hD, iR.stay _ _ _ _ k0 hSrc, hDn, upd_same, .nil, ?_⟩
    rw [hide_upd, hide_new hD]
    exact post1
  · obtain ⟨rfl, hi, ρ, M, acc, vs, er, sr, hS, hDn, hDv, ra, hp⟩ := hW
    by_cases hlt : i < xs.length
    · refine Or.inr ?_
      rw [List.drop_eq_getElem_cons hlt, lcGo] at hp
      split at hp
      · rename_i hg
        obtain ⟨hw, hb⟩ := Bool.and_eq_true_iff.mp hg
        have hb := of_decide_eq_true hb
        refine ⟨iR.go _ _ _ _ sr hS hw hlt, fun H' => ∃ ρ' M' acc' vs', ER K H' ρ' E σ ∧ SR K mg H' ρ' M' ∧ Src ρ' H' ∧ D ∉ ρ' ∧ H' D = some (.lst vs') ∧ RPs K H' ρ' acc' vs' ∧
          post K mg W σ (hide D H') ρ' ((lcGo wt (lcStep c g E cond elt) (xs.drop (i + 1)) acc' M').bind fun ys M2 => .ok (.loc M2.length) (M2 ++ [.lst ys])) (gE K Q), fun H' hN => ⟨xs.length - (i + 1), by omega, rfl, hlt, hN⟩, fun x H' hy => ?_⟩
        obtain ⟨p, hp1, e2, sr2, rp⟩ := iR.yld _ _ _ _ _ _ sr hS hw hlt hy
        rw [List.getElem?_eq_getElem hlt] at hp1
        cases hp1
        have k2 := e2.kp sr.mv
        have er2 := er.kp k2
        have hD2 : H' D = some (.lst vs) := e2.keep D _ hDn hDv
        have hp := post_ext (ext_hide (D := D) e2) hp
        have hS2 := iR.stay _ _ _ _ k2 hS
        have ra2 := ra.kp k2
        clear hS er sr hDv ra k2 e2 hy hg
        cases hs : lcStep c g E cond elt xs[i] M with
        | bad => rw [hs] at hp; exact hp.elim
        | err x M' => rw [hs] at hp; exact hp.elim
        | ok r M3 =>
          simp only [hs] at hp
          simp only [lcStep] at hs
          split at hs
          · rename_i E1 hE1
            refine tg_read (g := g) er2.wiped rp hE1 fun σ2 er3 st => ⟨?_, ρ, E1, M, er3, sr2, ?_⟩
            · rw [wipe_eq (σ := wipe σ (tgIx g)) st.1 st.2]
              exact wipe_eq (wipe_length _ _) fun j hj => wipe_out hj
            · cases hc : evC c cond E1 M with
              | bad => rw [hc] at hs; cases hs
              | err x M' => rw [hc] at hs; cases hs
              | ok b M2 =>
                rw [hc, Res.bind_ok] at hs
                intro ρ4 H4 e4 s4
                have er4 := er3.ext sr2.mv e4
                have k4 := e4.kp sr2.mv
                have hD4 : H4 D = some (.lst vs) := e4.keep D _ hDn hD2
                have hDn4 : D ∉ ρ4 := by
                  obtain ⟨τ, t1, t2⟩ := e4.pre
                  rw [t1]; intro z
                  rcases List.mem_append.mp z with z | z
                  · exact hDn z
                  · rw [(t2 D z).2] at hD2; cases hD2
                have hp4 := post_ext (ext_hide (D := D) e4) hp
                have hS4 := iR.stay _ _ _ _ k4 hS2
                have ra4 := ra2.kp k4
                have er4' := er2.ext sr2.mv e4
                cases b with
                | false =>
                  refine iteF ?_
                  injection hs with q1 q2
                  subst q1 q2
                  exact ⟨ρ4, M2, acc, vs, er4', s4, hS4, hDn4, hD4, ra4, hp4⟩
                | true =>
                  refine iteT ⟨ρ4, E1, M2, er4, s4, ?_⟩
                  have hs : (evE c elt E1 M2).bind (fun y M3 => .ok (some y) M3) = .ok r M3 := hs
                  cases hy : evE c elt E1 M2 with
                  | bad => rw [hy] at hs; cases hs
                  | err x M' => rw [hy] at hs; cases hs
                  | ok y M5 =>
                    rw [hy, Res.bind_ok] at hs
                    injection hs with q1 q2
                    subst q1 q2
                    intro ρ5 H5 e5 s5 v5 r5
                    have k5 := e5.kp s4.mv
                    have hD5 : H5 D = some (.lst vs) := e5.keep D _ hDn4 hD4
                    have hDn5 : D ∉ ρ5 := by
                      obtain ⟨τ, t1, t2⟩ := e5.pre
                      rw [t1]; intro z
                      rcases List.mem_append.mp z with z | z
                      · exact hDn4 z
                      · rw [(t2 D z).2] at hD4; cases hD4
                    have hp5 := post_ext (ext_hide (D := D) e5) hp4
                    have kk : Kp ρ5 H5 ρ5 (upd H5 D (.lst (vs ++ [v5]))) := kp_list hD5
                    have ra5 := (ra4.kp k5).snoc r5
                    refine ⟨vs, hD5, by rw [← ra2.length]; exact lt_big hb, ρ5, M5, acc ++ [y], vs ++ [v5], (er4'.ext s4.mv e5).kp kk, s5.kp kk fun a ha => upd_ne (fun z => hDn5 (z ▸ ha)), iR.stay _ _ _ _ kk (iR.stay _ _ _ _ k5 hS4), hDn5, upd_same, ra5.kp kk, ?_⟩
                    rw [hide_upd]
                    exact hp5
          · cases hs
      · exact hp.elim
    · refine Or.inl ?_
      have hi' : i = xs.length := by omega
      subst hi'
      rw [List.drop_length, lcGo] at hp
      split at hp
      · rename_i hw
        refine ⟨iR.stop _ _ _ _ sr hS hw (Nat.le_refl _), ?_⟩
        exact hp _ _ (ext_shown hDn) (sr.shown hDn hDv ra) _ (loc_new sr)
      · exact hp.elim
end
section
variable {X : Cx} {W W' : EW} {c : Ctx} {elt tg iter : Expr} {ifs : List Expr} {scope : Scope} {own : List (Str × Nat)} {pos : Pos} {g : Tg} {it : Ix} {cond : Ox} {el : Ex}
theorem e_lc (hc : X.calm = true) (hN : X.N.Nodup) (hi : SI X W c tg iter it) (ok : BlkOk X.N X.env.scope scope own) (hown : own.map (·.2) = tgIx g)
    (hg : ∀ (s : Shared) (H : Hp) (C : Addr) (cl : List (Str × Addr)) (fp : List Addr), PG (X.blk s H scope (compEnvC scope cl C X.env) fp) tg (tgG X.K g))
    (ht : ∀ (s : Shared) (H : Hp) (C : Addr) (cl : List (Str × Addr)) (fp : List Addr), PTs (X.blk s H scope (compEnvC scope cl C X.env) fp) ifs (tT X.K X.mg W' (evC c cond)))
    (he : ∀ (s : Shared) (H : Hp) (C : Addr) (cl : List (Str × Addr)) (fp : List Addr), PE (X.blk s H scope (compEnvC scope cl C X.env) fp) elt (tE X.K X.mg W' (evE c el))) (hs : ∀ x, foldedSetIterable iter X.env x = pure x) :
    SE X W c (.ListComp elt [⟨tg, iter, ifs, 0⟩] scope pos) (.lc el g it cond) :=
  pe_imp (pe_lc hc hN hi ok hg ht he hs) fun σ H Q h => by rw [hown]; exact lc_read h
end
end Wn
end
section
/-! So11: statements. -/
namespace Wn
open PySem PySem.Spec PyProof.Rows L2

/-- how a statement ends -/
def gFl (K : PySem.W.Frag) (D : Ends) (ρ : List Addr) (H : Hp) (fl : Fl) (_ : Store) : Prop := match fl with
  | .nx E' => ∀ σ', ER K H ρ E' σ' → D.nx σ' H
  | .bk E' => ∀ σ', ER K H ρ E' σ' → D.bk σ' H
  | .ct E' => ∀ σ', ER K H ρ E' σ' → D.ct σ' H
  | .rt p => ∀ v, RP K H ρ p v → D.rt v H
def tS (K : PySem.W.Frag) (mg : Str → Option Value) (W : EW) (r : Env → Store → Res Fl) : TS := fun D σ H => ∃ ρ E M, ER K H ρ E σ ∧ SR K mg H ρ M ∧ post K mg W σ H ρ (r E M) (gFl K D)
abbrev SS (X : Cx) (W : EW) (c : Ctx) (st : Stmt) (m : S) : Prop := PS X st (tS X.K X.mg W (evS c m))
abbrev SSs (X : Cx) (W : EW) (c : Ctx) (st : List Stmt) (m : Ss) : Prop := PSs X st (tS X.K X.mg W (evSs c m))
/-- what is wanted of an error does not hang on the slots -/
def EW.flat (W : EW) : Prop := ∀ σ σ' H ρ x M, W.p σ H ρ x M → W.p σ' H ρ x M
theorem post_slot {α : Type} {K : PySem.W.Frag} {mg : Str → Option Value} {W : EW} (hW : W.flat) {σ σ' : L2.St} {H : Hp} {ρ : List Addr} {r : Res α} {G : List Addr → Hp → α → Store → Prop} (h : post K mg W σ H ρ r G) : post K mg W σ' H ρ r G := by
  cases r with
  | ok a M => exact h
  | err x M => exact hW σ σ' _ _ _ _ h
  | bad => exact h

theorem Res.bind_assoc {α β γ : Type} (r : Res α) (f : α → Store → Res β) (g : β → Store → Res γ) : (r.bind f).bind g = r.bind fun a M => (f a M).bind g := by cases r <;> rfl
section
variable {X : Cx} {W : EW} {c : Ctx} {st : Stmt} {rest : List Stmt} {ms : S} {mr : Ss} {e o i : Expr} {me mo mi : Ex} {pos : Pos}
theorem ss_nil : SSs X W c [] .nil := pss_imp pss_nil fun D σ H ⟨ρ, E, M, er, sr, h⟩ => post_ok h sr σ er
theorem ss_cons (hW : W.flat) (h1 : SS X W c st ms) (h2 : SSs X W c rest mr) : SSs X W c (st :: rest) (.cons ms mr) :=
  pss_imp (pss_cons h1 h2) fun D σ H h => by
    obtain ⟨ρ, E, M, er, sr, h⟩ := h
    refine ⟨ρ, E, M, er, sr, post_imp (post_bind h) fun ρ1 H1 fl M1 e1 s1 h1 => ?_⟩
    cases fl with
    | nx E1 => exact fun σ' er' => ⟨ρ1, E1, M1, er', s1, post_slot hW h1⟩
    | bk E1 => (have q := post_ok (show post X.K X.mg W σ H1 ρ1 (.ok (.bk E1) M1) (gFl X.K D) from h1) s1; exact q)
    | ct E1 => (have q := post_ok (show post X.K X.mg W σ H1 ρ1 (.ok (.ct E1) M1) (gFl X.K D) from h1) s1; exact q)
    | rt v => (have q := post_ok (show post X.K X.mg W σ H1 ρ1 (.ok (.rt v) M1) (gFl X.K D) from h1) s1; exact q)
theorem s_asg {i : Nat} {x : Str} {pos' : Pos} (hN : X.N.Nodup) (hi : X.N[i]? = some x) (hx : Loc X.env.scope x) (he : SE X W c e me) (hs : swapsWith e (some (.Name x pos')) pos.line X.env = pure false) (hf : X.fn x = true ∨ X.env.scope.names.lookup x = some .local) :
    SS X W c (.Assign [.Name x pos'] e pos) (.asg i me) :=
  ps_imp (ps_set hN hi hx he hs hf) fun D σ H h => by
    obtain ⟨ρ, E, M, er, sr, h⟩ := h
    exact ⟨ρ, E, M, er, sr, post_imp (post_bind h) fun ρ1 H1 x M1 e1 s1 h1 v1 r1 => post_ok h1 s1 _ ((er.ext sr.mv e1).set r1 _)⟩
theorem s_asgLc {W' : EW} {i : Nat} {y : Str} {py : Pos} {elt tg iter : Expr} {ifs : List Expr} {scope : Scope} {own : List (Str × Nat)} {pos spos : Pos} {g : Tg} {it : Ix} {cond : Ox} {el : Ex} (hc : X.calm = true) (hN : X.N.Nodup) (hy : X.N[i]? = some y) (hyl : X.env.scope.names.lookup y = some .local)
    (hsw : swapsWith (.ListComp elt [⟨tg, iter, ifs, 0⟩] scope pos) (some (.Name y py)) spos.line X.env = pure true) (hi : SI X W c tg iter it) (ok : BlkOk X.N X.env.scope scope own) (hown : own.map (·.2) = tgIx g)
    (hg : ∀ (s : Shared) (H : Hp) (C : Addr) (cl : List (Str × Addr)) (fp : List Addr), PG (X.blk s H scope (compEnvC scope cl C X.env) fp) tg (tgG X.K g))
    (ht : ∀ (s : Shared) (H : Hp) (C : Addr) (cl : List (Str × Addr)) (fp : List Addr), PTs (X.blk s H scope (compEnvC scope cl C X.env) fp) ifs (tT X.K X.mg W' (evC c cond)))
    (he : ∀ (s : Shared) (H : Hp) (C : Addr) (cl : List (Str × Addr)) (fp : List Addr), PE (X.blk s H scope (compEnvC scope cl C X.env) fp) elt (tE X.K X.mg W' (evE c el))) (hs : ∀ x, foldedSetIterable iter X.env x = pure x) :
    SS X W c (.Assign [.Name y py] (.ListComp elt [⟨tg, iter, ifs, 0⟩] scope pos) spos) (.asg i (.lc el g it cond)) :=
  ps_imp (ps_setLc hc hN hy hyl hsw hi ok hg ht he hs) fun D σ H h => by
    obtain ⟨ρ, E, M, er, sr, h⟩ := h
    have h : post X.K X.mg W σ H ρ ((evE c (.lc el g it cond) E M).bind fun x M1 => .ok (.nx (E.set i (some x))) M1) (gFl X.K D) := h
    show tLc _ _ _ _ _ σ H _
    rw [hown]
    exact lc_read (W' := W') ⟨ρ, E, M, er, sr, post_imp (post_bind h) fun ρ1 H1 x M1 e1 s1 h1 v1 r1 => post_ok h1 s1 _ ((er.ext sr.mv e1).set r1 _)⟩
theorem s_unp {is : List Nat} {ts : List Expr} {k : Nat} {pt : Pos} (he : SE X W c e me) (hg : PG X (.Tuple ts k pt) (tgG X.K (.tup is))) (hs : swapsWithSole [.Tuple ts k pt] e pos.line X.env = pure false) (hw : swappedStores [.Tuple ts k pt] e X.env = pure none)
    (h1 : (assignEach [.Tuple ts k pt] X.env).map (·.2) = [assign (.Tuple ts k pt) X.env]) : SS X W c (.Assign [.Tuple ts k pt] e pos) (.unp is me) :=
  ps_imp (ps_asg he hg hs hw h1) fun D σ H h => by
    obtain ⟨ρ, E, M, er, sr, h⟩ := h
    refine ⟨ρ, E, M, er, sr, post_imp (post_bind h) fun ρ1 H1 x M1 e1 s1 h1 v1 r1 => ?_⟩
    split at h1
    · rename_i E1 hE
      exact tg_read ((er.ext sr.mv e1).o _) r1 hE fun σ' er' _ => post_ok h1 s1 σ' er'
    · exact h1.elim
/-- x, y = a, b -/
def isStarE : Expr → Bool
  | .Starred .. => true
  | _ => false
def par2 (sc : Scope) : List Expr → List Expr → Bool
  | [.Name x px, .Name y py], [a, b] => decide (sc.kind = .function) && decide (sc.names.lookup x = some .local) && decide (sc.names.lookup y = some .local) && (py.line == px.line) && !(x == y) && !isStarE a && !isStarE b && !(foldedForSure 8 a && foldedForSure 8 b) && !(constantsAlone 8 a && constantsAlone 8 b)
  | _, _ => false
theorem par2_sw {x y : Str} {px py pt pt2 : Pos} {k k2 : Nat} {a b : Expr} {env : PySem.Env} (h : par2 env.scope [.Name x px, .Name y py] [a, b] = true) : swappedStores [.Tuple [.Name x px, .Name y py] k pt] (.Tuple [a, b] k2 pt2) env = pure (some [x, y]) := by
  simp only [par2, Bool.and_eq_true, decide_eq_true_eq, Bool.not_eq_true', Bool.and_eq_false_iff, beq_eq_false_iff_ne, ne_eq] at h
  obtain ⟨⟨⟨⟨⟨⟨⟨⟨h1, h2⟩, h3⟩, h4⟩, h5⟩, h6⟩, h7⟩, h8⟩, h9⟩ := h
  have hb : env.blockKind = .function := by simp [PySem.Env.blockKind, h1, ScopeKind.isAnnotationScope]
  have hx : env.kindOf x = some .local := h2
  have hy : env.kindOf y = some .local := h3
  have hf : ([a, b].all (foldedForSure 8)) = false := by
    rcases h8 with h8 | h8 <;> simp [h8]
  have hc : ([a, b].all (constantsAlone 8)) = false := by
    rcases h9 with h9 | h9 <;> simp [h9]
  have hd : [x, y].eraseDups = [x, y] := by
    have : (y == x) = false := by simpa using fun z => h5 z.symm
    simp [List.eraseDups_cons, this]
  have hs : ([a, b].any isStarE) = false := by simp [h6, h7]
  have key : swappedStores [.Tuple [.Name x px, .Name y py] k pt] (.Tuple [a, b] k2 pt2) env = (do
    if !(2 == 2 || 2 == 3) || 2 != 2 || env.blockKind != .function then return none
    if [a, b].any isStarE then return none
    let names := [Expr.Name x px, Expr.Name y py].filterMap fun
      | .Name id pos => if env.kindOf id == some .local && pos.line == px.line then some id else none
      | _ => none
    if names.length != 2 || names.eraseDups.length != names.length then return none
    if [a, b].all (foldedForSure 8) then return none
    if [a, b].all (constantsAlone 8) then unsupported "assign.tuple-of-constant-expressions:order-of-the-stores"
    return some names) := rfl
  rw [key, hb, hs, hf, hc]
  simp [hx, hy, eq_of_beq h4, hd]
theorem s_par2 {x y : Str} {px py pt pt2 : Pos} {k k2 i j : Nat} {a b : Expr} {ms : Exs} (hc : X.calm = true) (hN : X.N.Nodup) (hi : X.N[i]? = some x) (hj : X.N[j]? = some y) (h : par2 X.env.scope [.Name x px, .Name y py] [a, b] = true) (ha : SA X W c [a, b] ms) :
    SS X W c (.Assign [.Tuple [.Name x px, .Name y py] k pt] (.Tuple [a, b] k2 pt2) pos) (.unp [i, j] (.tup ms)) := by
  have hw := par2_sw (k := k) (k2 := k2) (pt := pt) (pt2 := pt2) h
  simp only [par2, Bool.and_eq_true, decide_eq_true_eq, Bool.not_eq_true', beq_eq_false_iff_ne, ne_eq] at h
  obtain ⟨⟨⟨⟨⟨⟨⟨⟨h1, h2⟩, h3⟩, h4⟩, h5⟩, h6⟩, h7⟩, h8⟩, h9⟩ := h
  have hij : i ≠ j := by rintro rfl; rw [hi] at hj; exact h5 (Option.some.inj hj)
  refine ps_imp (ps_par hc hN hi hj hij h2 h3 ha hw rfl) fun D σ H h => ?_
  obtain ⟨ρ, E, M, er, sr, h⟩ := h
  have h : post X.K X.mg W σ H ρ ((evEs c ms E M).bind fun xs M1 => ((if xs.length ≤ big then .ok (.tup xs) M1 else .bad : Res PV).bind fun v M1 => match setTg (.tup [i, j]) v E with
    | some E1 => .ok (.nx E1) M1
    | none => .bad)) (gFl X.K D) := by rw [← Res.bind_assoc]; exact h
  refine ⟨ρ, E, M, er, sr, post_imp (post_bind h) fun ρ1 H1 xs M1 e1 s1 h1 vs rs => ?_⟩
  split at h1
  · have key : ∀ xs vs, RPs X.K H1 ρ1 xs vs → post X.K X.mg W σ H1 ρ1 (match setTg.setAll [i, j] xs E with
        | some E1 => (.ok (.nx E1) M1 : Res Fl)
        | none => .bad) (gFl X.K D) → ∃ v w, vs = [v, w] ∧ D.nx ((σ.set i (some v)).set j (some w)) H1 := by
      intro xs vs rs h1
      cases rs with
      | nil => exact h1.elim
      | cons r1 rs =>
        cases rs with
        | nil => exact h1.elim
        | @cons q _ _ _ r2 rs =>
          cases rs with
          | cons _ _ => exact h1.elim
          | nil =>
            have h1 : post X.K X.mg W σ H1 ρ1 (.ok (.nx ((E.set i (some _)).set j (some q))) M1) (gFl X.K D) := h1
            exact ⟨_, _, rfl, post_ok h1 s1 _ (((er.ext sr.mv e1).set r1 _).set r2 _)⟩
    exact key _ _ rs h1
  · exact h1.elim
theorem set_dict (hu : X.A.units + 1 < cLine) : PSet X (fun o k v H Q => ∃ a H4, o = .ref a ∧ DPut H a k v H4 ∧ Q H4) := by
  rintro pins s σ H o k v ov kv u Q I ro rk rv ⟨a, H4, rfl, g, q⟩
  cases ro
  exact d_setItem hu I g rk rv fun s' I' => ⟨H4, I', q⟩
theorem pset_or {t t' : TSet} (h : PSet X t) (h' : PSet X t') : PSet X (fun o k v H Q => t o k v H Q ∨ t' o k v H Q) :=
  fun pins s σ H o k v ov kv u Q I a b d q => q.elim (h pins s σ H o k v ov kv u Q I a b d) (h' pins s σ H o k v ov kv u Q I a b d)
theorem put_len (k v : PV) (kvs : List (PV × PV)) : True := trivial
theorem s_seti (hu : X.A.units + 200 < cLine) {po : Pos} (he : SE X W c e me) (ho : SE X W c o mo) (hi : SE X W c i mi)
    (ha : ∀ v, assign (.Subscript o i po) X.env v = (do
      let ov ← holding [v] (eval o X.env)
      let iv ← holding [v, ov] (eval i X.env)
      standAt po
      holding [v, ov, iv] (setItem ov iv v)
      release [v, ov, iv] [])) (hs : swapsWithSole [.Subscript o i po] e pos.line X.env = pure false) (hw : swappedStores [.Subscript o i po] e X.env = pure none)
    (h1 : (assignEach [.Subscript o i po] X.env).map (·.2) = [assign (.Subscript o i po) X.env]) : SS X W c (.Assign [.Subscript o i po] e pos) (.seti mo mi me) :=
  ps_imp (ps_asg he (pg_sub ho hi (pset_or set_list (set_dict (by omega))) ha) hs hw h1) fun D σ H h => by
    obtain ⟨ρ, E, M, er, sr, h⟩ := h
    refine ⟨ρ, E, M, er, sr, post_imp (post_bind h) fun ρ1 H1 v M1 e1 s1 h1 v1 r1 => ?_⟩
    have er1 := er.ext sr.mv e1
    refine ⟨ρ1, E, M1, er1, s1, post_imp (post_bind h1) fun ρ2 H2 x M2 e2 s2 h2 v2 r2 => ?_⟩
    have er2 := er1.ext s1.mv e2
    refine ⟨ρ2, E, M2, er2, s2, post_imp (post_bind h2) fun ρ3 H3 k M3 e3 s3 h3 v3 r3 => ?_⟩
    have er3 := er2.ext s2.mv e3
    have r1 := (r1.ext s1.mv e2).ext s2.mv e3
    have r2 := r2.ext s2.mv e3
    cases r2 with
    | @loc n a ha =>
      dsimp only at h3
      split at h3
      · rename_i xs hm
        obtain ⟨vs, g1, g2⟩ := s3.lst ha hm
        cases r3 with
        | int j =>
          dsimp only at h3
          split at h3
          · rename_i q hq
            refine Or.inl ⟨a, vs, j, q, rfl, rfl, g1, by rw [← g2.length]; exact hq, ?_⟩
            have ep := ext_put (H := H3) (o := .lst (vs.set q v1)) (List.mem_of_getElem? ha)
            exact h3 _ _ ep (s3.put ha ⟨_, upd_same, (g2.set q r1).ext s3.mv ep⟩) σ (er3.ext s3.mv ep)
          · exact h3.elim
        | _ => exact h3.elim
      · rename_i kvs hm
        obtain ⟨us, g1, g2⟩ := s3.dic ha hm
        split at h3
        · rename_i hk
          obtain ⟨k1, k2⟩ := Bool.and_eq_true_iff.mp hk
          obtain ⟨q, hq, rfl⟩ := key_rel r3 k1
          refine Or.inr ⟨a, _, rfl, DPut.k g1 (by rw [← g2.length]; exact lt_big (of_decide_eq_true k2)), ?_⟩
          have ep := ext_put (H := H3) (o := .dK (putK us q v1)) (List.mem_of_getElem? ha)
          exact h3 _ _ ep (s3.put ha ⟨_, upd_same, (g2.put hq r1).ext s3.mv ep⟩) σ (er3.ext s3.mv ep)
        · exact h3.elim
      · exact h3.elim
    | _ => exact h3.elim
theorem s_ex (he : SE X W c e me) (hs : swapsWith e none pos.line X.env = pure false) : SS X W c (.Expr e pos) (.ex me) :=
  ps_imp (ps_expr he hs) fun D σ H h => by
    obtain ⟨ρ, E, M, er, sr, h⟩ := h
    exact ⟨ρ, E, M, er, sr, post_imp (post_bind h) fun ρ1 H1 x M1 e1 s1 h1 v1 r1 => post_ok h1 s1 _ (er.ext sr.mv e1)⟩
theorem s_ret (he : SE X W c e me) : SS X W c (.Return (some e) pos) (.ret me) :=
  ps_imp (ps_ret he) fun D σ H h => by
    obtain ⟨ρ, E, M, er, sr, h⟩ := h
    exact ⟨ρ, E, M, er, sr, post_imp (post_bind h) fun ρ1 H1 x M1 e1 s1 h1 v1 r1 => post_ok h1 s1 _ r1⟩
theorem s_retN : SS X W c (.Return none pos) .retN := ps_imp ps_retN fun D σ H ⟨ρ, E, M, er, sr, h⟩ => post_ok h sr _ .non
theorem s_pass : SS X W c (.Pass pos) .pass := ps_imp ps_pass fun D σ H ⟨ρ, E, M, er, sr, h⟩ => post_ok h sr σ er
theorem s_brk : SS X W c (.Break pos) .brk := ps_imp ps_break fun D σ H ⟨ρ, E, M, er, sr, h⟩ => post_ok h sr σ er
theorem s_cont : SS X W c (.Continue pos) .cont := ps_imp ps_continue fun D σ H ⟨ρ, E, M, er, sr, h⟩ => post_ok h sr σ er
theorem s_ifs {t : Expr} {mt : Ex} {a b : List Stmt} {ma mb : Ss} (ht : ST X W c t mt) (ha : SSs X W c a ma) (hb : SSs X W c b mb) : SS X W c (.If t a b pos) (.ifs mt ma mb) :=
  ps_imp (ps_if ht ha hb) fun D σ H h => by
    obtain ⟨ρ, E, M, er, sr, h⟩ := h
    refine ⟨ρ, E, M, er, sr, post_imp (post_bind h) fun ρ1 H1 k M1 e1 s1 h1 => ?_⟩
    cases k with
    | true => exact iteT ⟨ρ1, E, M1, er.ext sr.mv e1, s1, h1⟩
    | false => exact iteF ⟨ρ1, E, M1, er.ext sr.mv e1, s1, h1⟩
theorem s_for (hW : W.flat) {tg iter : Expr} {body : List Stmt} {g : Tg} {it : Ix} {mb : Ss} (hp : PassesOwn (model X.prog X.w) X.A X.env X.xe) (hc : X.calm = true) (hi : SI X W c tg iter it) (hg : PG X tg (tgG X.K g)) (hb : SSs X W c body mb)
    (hs : ∀ x, foldedSetIterable iter X.env x = pure x) : SS X W c (.For tg iter body [] pos) (.for_ g it mb) :=
  ps_imp (ps_for hp hc hi hg hb hs) fun D σ H h => by
    obtain ⟨ρ, E, M, er, sr, h⟩ := h
    refine ⟨ρ, E, M, er, sr, post_imp (post_bind h) fun ρ1 H1 w M1 e1 s1 h1 J Src iR hSrc => ?_⟩
    obtain ⟨xs, wt⟩ := w
    have er1 := er.ext sr.mv e1
    have h1 : post X.K X.mg W σ H1 ρ1 (forGo wt (fun x E M => match setTg g x E with
      | some E1 => evSs c mb E1 M
      | none => .bad) xs E M1) (gFl X.K D) := h1
    dsimp only at iR
    refine ⟨fun i m σ H => m = xs.length - i ∧ i ≤ xs.length ∧ ∃ ρ E M, ER X.K H ρ E σ ∧ SR X.K X.mg H ρ M ∧ Src ρ H ∧ post X.K X.mg W σ H ρ (forGo wt (fun x E M => match setTg g x E with
      | some E1 => evSs c mb E1 M
      | none => .bad) (xs.drop i) E M) (gFl X.K D), ⟨xs.length, rfl, Nat.zero_le _, ρ1, E, M1, er1, s1, hSrc, h1⟩, fun i m σ H hW' => ?_⟩
    obtain ⟨rfl, hle, ρ, E, M, er, sr, hS, hp⟩ := hW'
    by_cases hlt : i < xs.length
    · refine Or.inr ?_
      rw [List.drop_eq_getElem_cons hlt, forGo] at hp
      split at hp
      · rename_i hw
        refine ⟨iR.go _ _ _ _ sr hS hw hlt, fun σ' H' => ∃ ρ E M, ER X.K H' ρ E σ' ∧ SR X.K X.mg H' ρ M ∧ Src ρ H' ∧ post X.K X.mg W σ' H' ρ (forGo wt (fun x E M => match setTg g x E with
            | some E1 => evSs c mb E1 M
            | none => .bad) (xs.drop (i + 1)) E M) (gFl X.K D), fun σ' H' hN => ⟨xs.length - (i + 1), by omega, rfl, hlt, hN⟩, fun x H' hy => ?_⟩
        obtain ⟨p, hp1, e2, sr2, rp⟩ := iR.yld _ _ _ _ _ _ sr hS hw hlt hy
        rw [List.getElem?_eq_getElem hlt] at hp1
        cases hp1
        have k2 := e2.kp sr.mv
        have er2 := er.kp k2
        have hS2 := iR.stay _ _ _ _ k2 hS
        have hp := post_ext e2 hp
        cases hE : setTg g xs[i] E with
        | none => rw [hE] at hp; exact hp.elim
        | some E1 =>
          rw [hE] at hp
          refine tg_read (er2.o _) rp hE fun σ2 er3 _ => ⟨ρ, E1, M, er3, sr2, post_imp (post_bind (post_slot hW hp)) fun ρ4 H4 fl M4 e4 s4 h4 => ?_⟩
          have hS4 := iR.stay _ _ _ _ (e4.kp sr2.mv) hS2
          cases fl with
          | nx E5 => exact fun σ' er' => ⟨ρ4, E5, M4, er', s4, hS4, post_slot hW h4⟩
          | ct E5 => exact fun σ' er' => ⟨ρ4, E5, M4, er', s4, hS4, post_slot hW h4⟩
          | bk E5 => (have q := post_ok (show post X.K X.mg W σ2 H4 ρ4 (.ok (.nx E5) M4) (gFl X.K D) from h4) s4; exact q)
          | rt v => (have q := post_ok (show post X.K X.mg W σ2 H4 ρ4 (.ok (.rt v) M4) (gFl X.K D) from h4) s4; exact q)
      · exact hp.elim
    · refine Or.inl ?_
      have hi' : i = xs.length := by omega
      subst hi'
      rw [List.drop_length, forGo] at hp
      split at hp
      · rename_i hw
        exact ⟨iR.stop _ _ _ _ sr hS hw (Nat.le_refl _), post_ok hp sr σ er⟩
      · exact hp.elim
theorem s_whl (hW : W.flat) {t : Expr} {mt : Ex} {body : List Stmt} {mb : Ss} (hp : PassesOwn (model X.prog X.w) X.A X.env X.xe) (ht : ST X W c t mt) (hb : SSs X W c body mb) : SS X W c (.While t body [] pos) (.whl mt mb) :=
  ps_imp (ps_while hp ht hb) fun D σ H h => by
    obtain ⟨ρ, E, M, er, sr, h⟩ := h
    have h : post X.K X.mg W σ H ρ (whileGo (fun E M => evT c mt E M) (fun E M => evSs c mb E M) c.wf E M) (gFl X.K D) := h
    refine ⟨fun m σ H => ∃ ρ E M, ER X.K H ρ E σ ∧ SR X.K X.mg H ρ M ∧ post X.K X.mg W σ H ρ (whileGo (fun E M => evT c mt E M) (fun E M => evSs c mb E M) m E M) (gFl X.K D), ⟨c.wf, ρ, E, M, er, sr, h⟩, fun m σ H hI => ?_⟩
    obtain ⟨ρ, E, M, er, sr, h⟩ := hI
    cases m with
    | zero => exact h.elim
    | succ m =>
      rw [whileGo] at h
      refine ⟨ρ, E, M, er, sr, post_imp (post_bind h) fun ρ1 H1 k M1 e1 s1 h1 => ?_⟩
      have er1 := er.ext sr.mv e1
      cases k with
      | false => exact iteF (post_ok h1 s1 σ er1)
      | true =>
        refine iteT ⟨fun σ' H' => ∃ ρ E M, ER X.K H' ρ E σ' ∧ SR X.K X.mg H' ρ M ∧ post X.K X.mg W σ' H' ρ (whileGo (fun E M => evT c mt E M) (fun E M => evSs c mb E M) m E M) (gFl X.K D), fun σ' H' hN => ⟨m, Nat.lt_succ_self m, hN⟩, ?_⟩
        refine ⟨ρ1, E, M1, er1, s1, post_imp (post_bind h1) fun ρ4 H4 fl M4 e4 s4 h4 => ?_⟩
        cases fl with
        | nx E5 => exact fun σ' er' => ⟨ρ4, E5, M4, er', s4, post_slot hW h4⟩
        | ct E5 => exact fun σ' er' => ⟨ρ4, E5, M4, er', s4, post_slot hW h4⟩
        | bk E5 => (have q := post_ok (show post X.K X.mg W σ H4 ρ4 (.ok (.nx E5) M4) (gFl X.K D) from h4) s4; exact q)
        | rt v => (have q := post_ok (show post X.K X.mg W σ H4 ρ4 (.ok (.rt v) M4) (gFl X.K D) from h4) s4; exact q)
end
end Wn
end
section
/-! So12: what must be seen of the text; calls of own defs; dict displays. -/
namespace Wn
open PySem PySem.Spec PyProof.Rows L2

/-! ### forms of the text -/
def isStar : Expr → Bool
  | .Starred _ _ => true
  | _ => false
theorem star_cons {e : Expr} {es : List Expr} {env : PySem.Env} (h : isStar e = false) : starEach (e :: es) env = (false, eval e env) :: starEach es env := by
  cases e <;> first | (cases h; done) | rfl
theorem star_all : ∀ {es : List Expr} {env : PySem.Env}, es.all (fun e => !isStar e) = true → starEach es env = es.map fun e => (false, eval e env)
  | [], _, _ => rfl
  | e :: es, env, h => by
    simp only [List.all_cons, Bool.and_eq_true, Bool.not_eq_true'] at h
    rw [star_cons h.1, star_all h.2]; rfl
theorem star_any {es : List Expr} {env : PySem.Env} {pos : Pos} (h : es.all (fun e => !isStar e) = true) : (backTo pos (starEach es env)).any (·.1) = false := by
  rw [star_all h, List.any_eq_false]
  intro x hx
  simp only [backTo, List.map_map, List.mem_map] at hx
  obtain ⟨e, _, rfl⟩ := hx
  simp
theorem star_few {es : List Expr} {env : PySem.Env} {pos : Pos} (h : es.all (fun e => !isStar e) = true) (hl : es.length < 30) : ((backTo pos (starEach es env)).all (fun x => !x.1) && (backToKw pos (keywordEach [] env)).all (fun x => x.1.isSome)
      && decide (es.length + ([] : List Keyword).length + (if ([] : List Keyword).isEmpty then 0 else 1) < 30)) = true := by
  have a : (backTo pos (starEach es env)).all (fun x => !x.1) = true := by
    rw [star_all h, List.all_eq_true]
    intro x hx
    simp only [backTo, List.map_map, List.mem_map] at hx
    obtain ⟨e, _, rfl⟩ := hx
    rfl
  have b : (backToKw pos (keywordEach [] env)).all (fun x => x.1.isSome) = true := by
    have : keywordEach [] env = [] := by rw [keywordEach]
    rw [this]; rfl
  rw [a, b]
  have d : decide (es.length + ([] : List Keyword).length + (if ([] : List Keyword).isEmpty then 0 else 1) < 30) = true := decide_eq_true (by show es.length + 0 + 0 < 30; omega)
  rw [d]; rfl
def baseOk : Expr → Bool
  | .Call (.Name _ _) [] [] _ => false
  | _ => true
theorem base_ok {o : Expr} {m : Str} {env : PySem.Env} {w : Sem Value} (h : baseOk o = true) : attributeBase o m env w = w := by
  unfold attributeBase
  split
  · cases h
  · rfl
def notComp : Expr → Bool
  | .ListComp .. => false
  | .SetComp .. => false
  | .DictComp .. => false
  | _ => true
theorem swap_no {e : Expr} {t : Option Expr} {l : Nat} {env : PySem.Env} (h : notComp e = true) : swapsWith e t l env = pure false := by
  cases e <;> first | (cases h; done) | rfl
def notTup : Expr → Bool
  | .Tuple .. => false
  | _ => true
theorem stores_no {ts : List Expr} {k : Nat} {p : Pos} {e : Expr} {env : PySem.Env} (h : notTup e = true) : swappedStores [.Tuple ts k p] e env = pure none := by
  cases e <;> first | (cases h; done) | rfl
theorem stores_sub {o i : Expr} {p : Pos} {e : Expr} {env : PySem.Env} : swappedStores [.Subscript o i p] e env = pure none := by
  cases e <;> rfl
def notSet : Expr → Bool
  | .Set .. => false
  | _ => true
theorem folded_no {e : Expr} {env : PySem.Env} (h : notSet e = true) (x : Value) : foldedSetIterable e env x = pure x := by
  cases e <;> first | (cases h; done) | rfl
theorem marks_no {op : CmpOp} {e : Expr} (h : notSet e = true) : behindInMarks op e = false := by
  cases e <;> first | (cases h; done) | rfl
def notSlice : Expr → Bool
  | .Slice .. => false
  | _ => true
theorem plain_ix {e : Expr} (h : notSlice e = true) : PlainIx e := by
  intro o i
  cases e <;> first | (cases h; done) | rfl
def truthOk : Expr → Bool
  | .UnaryOp .. => false
  | .BoolOp .. => false
  | .IfExp .. => false
  | .Compare .. => false
  | _ => true
theorem truth_of {e : Expr} {env : PySem.Env} (h : truthOk e = true) (w : Sem Value) : isTrue e env w = (do let v ← w; standAt e.pos; holding [v] (truthy v)) := by
  cases e <;> first | (cases h; done) | rfl
theorem asg_sub {o i : Expr} {p : Pos} {env : PySem.Env} (h : notSlice i = true) (v : Value) : assign (.Subscript o i p) env v = (do
      let ov ← holding [v] (eval o env)
      let iv ← holding [v, ov] (eval i env)
      standAt p
      holding [v, ov, iv] (setItem ov iv v)
      release [v, ov, iv] []) := by
  cases i <;> first | (cases h; done) | rfl

/-! ### names -/
def visB (sc : Scope) (x : Str) : Bool := match sc.names.lookup x with
  | some .local => true
  | some .cell => true
  | some .free => true
  | _ => false
theorem vis_of {sc : Scope} {x : Str} (h : visB sc x = true) : Vis sc x := by
  unfold visB at h
  split at h
  · exact Or.inl ‹_›
  · exact Or.inr (Or.inl ‹_›)
  · exact Or.inr (Or.inr ‹_›)
  · cases h
def globB (sc : Scope) (x : Str) : Bool := decide (sc.names.lookup x = some .globalImplicit)
def plainName (x : Str) : Bool := !(x == ("__debug__" : Str)) && !(x == ("__classdict__" : Str)) && !(x == ("__name__" : Str))
/-- a name that may be stored -/
def locB (sc : Scope) (fn : Str → Bool) (x : Str) : Bool := match sc.names.lookup x with
  | some .local => true
  | some .cell => fn x
  | _ => false
section
variable {X : Cx} {pos : Pos}
theorem pg_of {i : Nat} {x : Str} {sc : Scope} {fn : Str → Bool} (hN : X.N.Nodup) (hsc : X.env.scope = sc) (hfn : X.fn = fn) (hi : X.N[i]? = some x) (h : locB sc fn x = true) : PG X (.Name x pos) (gName i) := by
  subst hsc hfn
  unfold locB at h
  split at h
  · exact pg_name hN hi (Or.inl ‹_›) (Or.inr ‹_›)
  · exact pg_name hN hi (Or.inr ‹_›) (Or.inl h)
  · cases h
/-- the names of a target -/
def tgNames : List Nat → List Expr → List Str → Scope → (Str → Bool) → Bool
  | [], [], _, _, _ => true
  | i :: is, .Name x _ :: es, N, sc, fn => decide (N[i]? = some x) && locB sc fn x && tgNames is es N sc fn
  | _, _, _, _, _ => false
theorem tgNames_star {N : List Str} {sc : Scope} {fn : Str → Bool} : ∀ {is : List Nat} {es : List Expr}, tgNames is es N sc fn = true → es.length = is.length ∧ ∀ {env : PySem.Env}, assignEach es env = es.map fun e => (false, assign e env)
  | [], [], _ => ⟨rfl, rfl⟩
  | [], e :: es, h => by cases e <;> cases h
  | i :: is, [], h => by cases h
  | i :: is, e :: es, h => by
    cases e <;> first | (cases h; done) | skip
    simp only [tgNames, Bool.and_eq_true] at h
    obtain ⟨q1, q2⟩ := tgNames_star h.2
    refine ⟨by rw [List.length_cons, List.length_cons, q1], ?_⟩
    intro env
    rw [assignEach, q2]
    · rfl
    · intro t p z; cases z
theorem pgs_of {sc : Scope} {fn : Str → Bool} (hN : X.N.Nodup) (hsc : X.env.scope = sc) (hfn : X.fn = fn) : ∀ {is : List Nat} {es : List Expr}, tgNames is es X.N sc fn = true → PGs X es (gAll is)
  | [], [], _ => pgs_nil
  | [], e :: es, h => by cases e <;> cases h
  | i :: is, [], h => by cases h
  | i :: is, e :: es, h => by
    cases e <;> first | (cases h; done) | skip
    have h0 := h
    simp only [tgNames, Bool.and_eq_true, decide_eq_true_eq] at h
    refine pgs_cons (pg_of hN hsc hfn h.1.1 h.1.2) (pgs_of hN hsc hfn h.2) ?_
    rw [(tgNames_star h0).2, (tgNames_star h.2).2]; rfl
theorem pg_tgt {is : List Nat} {es : List Expr} {k : Nat} {sc : Scope} {fn : Str → Bool} (hc : X.calm = true) (hN : X.N.Nodup) (hsc : X.env.scope = sc) (hfn : X.fn = fn) (h : tgNames is es X.N sc fn = true) : PG X (.Tuple es k pos) (tgG X.K (.tup is)) := by
  obtain ⟨q1, q2⟩ := tgNames_star h
  refine pg_tup hc (pgs_of hN hsc hfn h) ?_ ?_
  · rw [q2, List.length_map, q1]
  · rw [q2, List.findIdx?_eq_none_iff]
    intro x hx
    simp only [List.mem_map] at hx
    obtain ⟨e, _, rfl⟩ := hx
    rfl
end

/-! ### errors of own classes -/
def XRel (K : PySem.W.Frag) (mg : Str → Option Value) (H : Hp) (ρ : List Addr) (x : Exn) (cls : Value) (d : Option Addr) : Prop :=
  ∃ C, mg x.cls = some (.ref C) ∧ cls = .ref C ∧ ((x.fs = [] ∧ d = none) ∨ ∃ da us, d = some da ∧ H da = some (.xd us) ∧ RFs K H ρ (x.fs.zip x.vs) us)
def EWx (K : PySem.W.Frag) (mg : Str → Option Value) (Wx : WX) : EW :=
  ⟨fun σ H ρ x M => ∀ ρ' H' cls d, Ext ρ H ρ' H' → SR K mg H' ρ' M → XRel K mg H' ρ' x cls d → Wx cls d σ H', fun e h ρ' H' cls d e' => h ρ' H' cls d (e.trans e')⟩
/-- what a def promises: the evaluator's answer -/
def spF (K : PySem.W.Frag) (mg : Str → Option Value) (r : List PV → Store → Res PV) : Sp := fun vs H Q E => ∃ ρ args M, SR K mg H ρ M ∧ RPs K H ρ args vs ∧ post K mg (EWx K mg fun cls d _ H => E cls d H) [] H ρ (r args M) (gE K Q)
theorem post_w {α : Type} {K : PySem.W.Frag} {mg : Str → Option Value} {W W' : EW} {σ σ' : L2.St} {H : Hp} {ρ : List Addr} {r : Res α} {G : List Addr → Hp → α → Store → Prop} (hw : ∀ x M, W.p σ H ρ x M → W'.p σ' H ρ x M) (h : post K mg W σ H ρ r G) : post K mg W' σ' H ρ r G := by
  cases r with
  | ok a M => exact h
  | err x M => exact hw x M h
  | bad => exact h
section
variable {X : Cx} {Wx : WX} {c : Ctx} {e : Expr} {es : List Expr} {ms : Exs} {pos p : Pos} {f : Str} {k : Nat} {fa : Addr} {fd : FuncData} {ps : List Str}
theorem call_read {r : List PV → Store → Res PV} {m : Ex} (hm : ∀ E M, evE c m E M = (evEs c ms E M).bind fun xs M1 => r xs M1) {σ : L2.St} {H : Hp} {Q : VK} (h : tE X.K X.mg (EWx X.K X.mg Wx) (evE c m) σ H Q) :
    tA X.K X.mg (EWx X.K X.mg Wx) (evEs c ms) σ H fun vs H1 => spF X.K X.mg r vs H1 Q (WE Wx σ) := by
  obtain ⟨ρ, E, M, er, sr, h⟩ := h
  rw [hm] at h
  exact ⟨ρ, E, M, er, sr, post_imp (post_bind h) fun ρ1 H1 xs M1 e1 s1 h1 vs rs => ⟨ρ1, xs, M1, s1, rs, post_w (fun _ _ q => q) h1⟩⟩
theorem e_call (F : FnOk X.prog X.w X.K X.mg X.base (L2.CX X.prog X.w) k fa fd ps (spF X.K X.mg (c.call f))) (hr : Room k X.A) (hg : Gl X f) (hm : X.mg f = some (.ref fa)) (hk : PySem.W.keepIn X.K (.ref fa) = true) (hb : Binds X.K fd ps []) (tk : Takes X Wx)
    (ha : SA X (EWx X.K X.mg Wx) c (e :: es) ms) (hdb : (f == ("__debug__" : Str)) = false) (he : (e :: es).all (fun e => !isStar e) = true) : SE X (EWx X.K X.mg Wx) c (.Call (.Name f p) (e :: es) [] pos) (.call f ms) := by
  have h1 : isStar e = false ∧ es.all (fun e => !isStar e) = true := by simpa using he
  exact pe_imp (pe_callS F hr hg hm hk hb (fun σ => passAt tk σ) ha hdb (star_cons h1.1) (star_any h1.2)) fun σ H Q h => call_read (fun _ _ => rfl) h
theorem e_call0 (F : FnOk X.prog X.w X.K X.mg X.base (L2.CX X.prog X.w) k fa fd ps (spF X.K X.mg (c.call f))) (hr : Room k X.A) (hg : Gl X f) (hm : X.mg f = some (.ref fa)) (hk : PySem.W.keepIn X.K (.ref fa) = true) (hb : Binds X.K fd ps []) (tk : Takes X Wx)
    (hdb : (f == ("__debug__" : Str)) = false) : SE X (EWx X.K X.mg Wx) c (.Call (.Name f p) [] [] pos) (.call f .nil) := by
  have r : PE X (.Call (.Name f p) [] [] pos) (fun σ H Q => spF X.K X.mg (c.call f) [] H Q (WE Wx σ)) := by
    refine ⟨fun pins s σ H Q I h => ?_⟩
    refine wpAny_Call_Name_kw (ld_glob I hg hm ?_ hdb)
    exact PySem.W.callWith_K0 I.kIn hk (run_fnS (us := []) F hr hb (passAt tk σ) I .nil h)
  refine pe_imp r fun σ H Q h => ?_
  obtain ⟨ρ, E, M, er, sr, h⟩ := call_read (ms := .nil) (fun _ _ => rfl) h
  exact post_ok h sr _ .nil
end
/-! ### {k: v, ..} -/
section
variable {K : PySem.W.Frag} {mg : Str → Option Value} {H H' : Hp} {ρ ρ' : List Addr} {M : Store}
/-- a thing that stands already becomes one of ours -/
theorem SR.shownO {D : Addr} {m : MO} (S : SR K mg H ρ M) (hD : D ∉ ρ) (or : OR K mg H (ρ ++ [D]) D m) : SR K mg H (ρ ++ [D]) (M ++ [m]) := by
  have k : Kp ρ H (ρ ++ [D]) H := ⟨fun _ _ h => h, fun _ _ _ h => h, fun n a h => by rw [List.getElem?_append_left (List.getElem?_eq_some_iff.mp h).1]; exact h⟩
  refine ⟨by rw [List.length_append, List.length_append, S.len]; rfl, ?_, fun n a q h1 h2 => ?_⟩
  · exact List.nodup_append.mpr ⟨S.nd, (List.nodup_cons.mpr ⟨(fun z => nomatch z), List.nodup_nil⟩), fun x hx y hy => by cases List.mem_singleton.mp hy; exact fun z => hD (z ▸ hx)⟩
  · by_cases hn : n < ρ.length
    · rw [List.getElem?_append_left hn] at h1
      rw [List.getElem?_append_left (by rw [← S.len]; exact hn)] at h2
      exact (S.obj n a q h1 h2).kp k rfl
    · rw [List.getElem?_append_right (by omega)] at h1
      rw [List.getElem?_append_right (by have := S.len; omega)] at h2
      have hk : n - ρ.length = 0 := by
        have := (List.getElem?_eq_some_iff.mp h1).1
        simp at this; omega
      rw [hk] at h1
      rw [← S.len, hk] at h2
      simp at h1 h2
      subst h1 h2
      exact or
theorem ext_late {p : Addr} {o u : HO} (hp : H p = none) (hn : p ∉ ρ) (e : Ext ρ (upd H p o) ρ' H') : Ext ρ H (ρ' ++ [p]) (upd H' p u) := by
  obtain ⟨τ, e1, f1⟩ := e.pre
  refine ⟨⟨τ ++ [p], by rw [e1, List.append_assoc], fun a ha => ?_⟩, fun a q ha h => ?_⟩
  · rcases List.mem_append.mp ha with h | h
    · refine ⟨(f1 a h).1, ?_⟩
      have q := (f1 a h).2
      have : a ≠ p := fun z => by rw [z, upd_same] at q; cases q
      rw [upd_ne this] at q; exact q
    · cases List.mem_singleton.mp h; exact ⟨hn, hp⟩
  · have : a ≠ p := fun z => by rw [z, hp] at h; cases h
    rw [upd_ne this]
    exact e.keep a q ha (by rw [upd_ne this]; exact h)
theorem kp_dict {D : Addr} {l l' : List (Key × V)} (h : H D = some (.dK l)) : Kp ρ H ρ (upd H D (.dK l')) :=
  ⟨fun a xs e => by rw [upd_ne (fun z => by rw [z, h] at e; cases e)]; exact e, fun a o u e => by rw [upd_ne (fun z => by rw [z, h] at e; cases e)]; exact e, fun _ _ h => h⟩
end
section
variable {X : Cx} {W : EW} {c : Ctx} {pos : Pos}
def trsOf (K : PySem.W.Frag) (mg : Str → Option Value) (W : EW) (c : Ctx) : Exs → List (TE × TE)
  | .cons k (.cons v r) => (tE K mg W (evE c k), tE K mg W (evE c v)) :: trsOf K mg W c r
  | _ => []
def evenEs : Exs → Bool
  | .nil => true
  | .cons _ (.cons _ r) => evenEs r
  | _ => false
def pairUp : List V → List (V × V)
  | a :: b :: r => (a, b) :: pairUp r
  | _ => []
theorem pairs_read {K : PySem.W.Frag} {mg : Str → Option Value} {σ : L2.St} {E : Env} : ∀ {ms : Exs} {M M' : Store} {ps : List PV} {H : Hp} {ρ : List Addr} {Q : List (V × V) → Hp → Prop}, evenEs ms = true → evEs c ms E M = .ok ps M' → ER K H ρ E σ → SR K mg H ρ M →
    (∀ ρ' H' vs, Ext ρ H ρ' H' → SR K mg H' ρ' M' → RPs K H' ρ' ps vs → Q (pairUp vs) H') → tPairs (trsOf K mg W c ms) σ H Q
  | .nil, M, M', ps, H, ρ, Q, _, he, er, sr, q => by
    cases he
    exact q ρ H [] (Ext.refl _ _) sr .nil
  | .cons k (.cons v r), M, M', ps, H, ρ, Q, ho, he, er, sr, q => by
    simp only [evEs] at he
    cases h1 : evE c k E M with
    | bad => rw [h1] at he; cases he
    | err x M1 => rw [h1] at he; cases he
    | ok x M1 =>
      rw [h1, Res.bind_ok] at he
      cases h2 : evE c v E M1 with
      | bad => rw [h2] at he; cases he
      | err x M1 => rw [h2] at he; cases he
      | ok y M2 =>
        rw [h2, Res.bind_ok] at he
        cases h3 : evEs c r E M2 with
        | bad => rw [h3] at he; cases he
        | err x M1 => rw [h3] at he; cases he
        | ok zs M3 =>
          rw [h3] at he
          simp only [Res.bind_ok] at he
          injection he with g1 g2
          subst g1 g2
          refine ⟨ρ, E, M, er, sr, ?_⟩
          rw [h1]
          intro ρ1 H1 e1 s1 v1 r1
          have er1 := er.ext sr.mv e1
          refine ⟨ρ1, E, M1, er1, s1, ?_⟩
          rw [h2]
          intro ρ2 H2 e2 s2 v2 r2
          have er2 := er1.ext s1.mv e2
          exact pairs_read (ms := r) ho h3 er2 s2 fun ρ' H' vs e3 s3 r3 => q ρ' H' (v1 :: v2 :: vs) ((e1.trans e2).trans e3) s3 (.cons ((r1.ext s1.mv e2).ext s2.mv e3) (.cons (r2.ext s2.mv e3) r3))
  | .cons k .nil, _, _, _, _, _, _, ho, _, _, _, _ => by cases ho
theorem flat_rel {H : Hp} {ρ : List Addr} : ∀ {xs : List PV} {vs : List V} {qs : List (PV × PV)}, RPs X.K H ρ xs vs → flatPairs xs = some qs → ∃ kvs : List (Key × V), pairUp vs = kvs.map (fun kv => (kV kv.1, kv.2)) ∧ RKV X.K H ρ qs kvs
  | [], _, _, .nil, h => by cases h; exact ⟨[], rfl, .nil⟩
  | [x], _, _, .cons _ .nil, h => by cases h
  | x :: y :: xs, _, _, .cons r1 (.cons r2 rs), h => by
    simp only [flatPairs] at h
    split at h
    · rename_i hk
      simp only [Option.map_eq_some_iff] at h
      obtain ⟨ps, h1, rfl⟩ := h
      obtain ⟨q, hq, rfl⟩ := key_rel r1 hk
      obtain ⟨kvs, e1, e2⟩ := flat_rel rs h1
      exact ⟨(q, _) :: kvs, by rw [pairUp, e1]; rfl, .cons hq r2 e2⟩
    · cases h
theorem e_dic {keys : List (Option Expr)} {values : List Expr} {ms : Exs} (h : PPs X pos keys values (trsOf X.K X.mg W c ms)) (hev : evenEs ms = true) (hall : keys.all (·.isSome) = true) (hl : keys.length = values.length) (h0 : keys ≠ []) (h15 : keys.length ≤ 15) :
    SE X W c (.Dict keys values pos) (.dic ms) :=
  pe_imp (pe_disp h hall hl h0 h15) fun σ H Q h p hp => by
    obtain ⟨ρ, E, M, er, sr, h⟩ := h
    have hn := sr.notin hp
    have k0 : Kp ρ H ρ (upd H p (.dK [])) := (ext_new hp).kp sr.mv
    simp only [evE] at h
    split at h
    · rename_i xs M1 he
      split at h
      · rename_i qs hq
        split at h
        · rename_i h15
          refine pairs_read hev he (er.kp k0) (sr.new hp) fun ρ' H' vs e1 s1 r1 => ?_
          obtain ⟨kvs, g1, g2⟩ := flat_rel r1 hq
          have hp' : H' p = some (.dK []) := e1.keep p _ hn upd_same
          have hn' : p ∉ ρ' := by
            obtain ⟨τ, t1, t2⟩ := e1.pre
            rw [t1]; intro z
            rcases List.mem_append.mp z with z | z
            · exact hn z
            · have := (t2 p z).2; rw [upd_same] at this; cases this
          refine ⟨hp', kvs, g1, by rw [← g2.length]; exact h15, ?_⟩
          have kk : Kp ρ' H' ρ' (upd H' p (.dK (mergeK [] kvs))) := kp_dict hp'
          have s2 : SR X.K X.mg (upd H' p (.dK (mergeK [] kvs))) ρ' M1 := s1.kp kk fun a ha => upd_ne (fun z => hn' (z ▸ ha))
          have kl : Kp ρ' (upd H' p (.dK (mergeK [] kvs))) (ρ' ++ [p]) (upd H' p (.dK (mergeK [] kvs))) := ⟨fun _ _ h => h, fun _ _ _ h => h, fun n a h => by rw [List.getElem?_append_left (List.getElem?_eq_some_iff.mp h).1]; exact h⟩
          refine h _ _ (ext_late hp hn e1) (s2.shownO hn' ⟨_, upd_same, ((g2.merge .nil).kp kk).kp kl⟩) _ (loc_new s1)
        · exact h.elim
      · exact h.elim
    · exact h.elim
theorem e_dic0 : SE X W c (.Dict [] [] pos) (.dic .nil) :=
  pe_imp pe_dnewK fun σ H Q h p hp => by
    obtain ⟨ρ, E, M, er, sr, h⟩ := h
    exact lay_dic sr .nil h hp
end
end Wn
end
section
/-! So13: products. -/
namespace Wn
open PySem PySem.Spec PyProof.Rows L2
theorem foldl_cat : ∀ (k : Nat) (a : Array Nat) (acc : Array Nat), (List.replicate k a).foldl (· ++ ·) acc = acc ++ (List.replicate k a.toList).flatten.toArray
  | 0, a, acc => by simp
  | k + 1, a, acc => by
    rw [List.replicate_succ, List.foldl_cons, foldl_cat k a, List.replicate_succ, List.flatten_cons]
    apply Array.ext'
    simp [Array.append_assoc]
theorem flat_nil (k : Nat) : (List.replicate k ([] : List Nat)).flatten = [] := by
  induction k with
  | zero => rfl
  | succ k ih => rw [List.replicate_succ, List.flatten_cons, ih]; rfl
theorem mul_eq (x : Str) (k : Int) : Txt.mul x k = ⟨(List.replicate k.toNat x.cps.toList).flatten.toArray⟩ := by
  unfold Txt.mul
  split
  · rename_i h
    have : k.toNat = 0 := by omega
    rw [this]; rfl
  · split
    · rename_i h1 h2
      rcases Bool.or_eq_true_iff.mp h2 with h | h
      · have : k = 1 := by simpa using h
        subst this
        obtain ⟨⟨l⟩⟩ := x
        simp
      · have h : x.length = 0 := by simpa using h
        obtain ⟨⟨l⟩⟩ := x
        have : l = [] := List.length_eq_zero_iff.mp h
        subst this
        rw [flat_nil]
    · rw [foldl_cat]
      congr 1
      apply Array.ext'
      simp
section
variable {X : Cx}
theorem op_mulS : OpR X (binaryOp .Mult) (fun x y H Q => ∃ z k, x = .str z ∧ y = .int k ∧ z.length ≤ 1000 ∧ -1000 < k ∧ k < 1000 ∧ Q (.str ⟨(List.replicate k.toNat z.cps.toList).flatten.toArray⟩) H) := by
  rintro pins s σ H x y v u Q I rx ry ⟨z, k, rfl, rfl, h1, h2, h3, q⟩
  obtain ⟨t, rfl⟩ := rx
  obtain ⟨t', rfl⟩ := ry
  refine SB.mul (mulOk_of 1000 1000 h1 (by omega) (by omega) (by decide) (by decide)) fun t2 n => ?_
  exact ⟨.str _, H, I.tok n, ⟨t2, by rw [mul_eq]⟩, q⟩
theorem op_doMul : OpR X (binaryOp .Mult) (r2 X.K X.mg fun M p q => doBin M .mul p q) := by
  refine opr_imp ((op_mul.or op_rep).or op_mulS) ?_
  rintro x y H Q ⟨ρ, M, p, q, sr, rx, ry, h⟩
  have h := h []
  cases rx with
  | int i => cases ry with
    | int j =>
      simp only [doBin] at h
      split at h
      · exact Or.inl (Or.inl ⟨i, j, rfl, rfl, mul_ok ‹_›, post_ok h sr _ (.int _)⟩)
      · exact h.elim
    | _ => exact h.elim
  | str z => cases ry with
    | int k =>
      simp only [doBin] at h
      split at h
      · rename_i hc
        exact Or.inr ⟨z, k, rfl, rfl, hc.2.2, hc.2.1, hc.1, post_ok h sr _ (.str _)⟩
      · exact h.elim
    | _ => exact h.elim
  | @loc n a ha => cases ry with
    | int k =>
      simp only [doBin] at h
      split at h
      · rename_i xs hm
        obtain ⟨vs, e1, r1⟩ := sr.lst ha hm
        split at h
        · rename_i hc
          refine Or.inl (Or.inr ⟨a, k, vs, rfl, rfl, e1, by omega, by omega, ?_, fun p hp => lay_lst sr (r1.flat _) h hp⟩)
          have h1 : vs.length ≤ 1000 := by rw [← r1.length]; exact hc.2.2
          have h2 : k.toNat ≤ 1000 := by omega
          exact Nat.le_trans (Nat.mul_le_mul h1 h2) (by decide)
        · exact h.elim
      · exact h.elim
    | _ => exact h.elim
  | _ => exact h.elim
def opOf : BOp → Operator
  | .add => .Add
  | .sub => .Sub
  | .mul => .Mult
  | .fdiv => .FloorDiv
  | .mod => .Mod
  | .pow => .Pow
theorem op_all (o : BOp) : OpR X (binaryOp (opOf o)) (r2 X.K X.mg fun M p q => doBin M o p q) := by
  cases o
  · exact op_doAdd
  · exact op_doSub
  · exact op_doMul
  · exact op_doFdiv
  · exact op_doMod
  · exact op_doPow
def cmpOf : COp → CmpOp
  | .eq => .Eq
  | .ne => .NotEq
  | .lt => .Lt
  | .le => .LtE
  | .gt => .Gt
  | .ge => .GtE
  | .isin => .In
  | .notin => .NotIn
  | .is_ => .Is
  | .isnot => .IsNot
theorem cmp_all (hu : X.A.units + 200 < cLine) (o : COp) : OpR X (compareOp (cmpOf o)) (rC X o) := by
  cases o
  · exact op_doEq hu
  · exact op_doNe hu
  · exact op_doLt
  · exact op_doLe
  · exact op_doGt
  · exact op_doGe
  · exact op_doIn hu
  · exact op_doNotin hu
  · exact op_doIs
  · exact op_doIsnot
end
end Wn
end
section
/-! SoG: dict.get, reversed rows, len of a set of texts. -/
namespace Wn
open PySem PySem.Spec PyProof.Rows L2

section
variable {X : Cx} {W : EW} {c : Ctx} {o e f : Expr} {eo ee ef : Ex} {apos cpos pos : Pos}
/-! ### d.get(k, x) -/
theorem e_get2 (hu : X.A.units + 200 < cLine) (ho : SE X W c o eo) (he : SE X W c e ee) (hf : SE X W c f ef) (m : M2 X o "get" apos e f cpos) : SE X W c (.Call (.Attribute o "get" apos) [e, f] [] cpos) (.bm .get eo (.cons ee (.cons ef .nil))) :=
  pe_imp (pe_dget2 (by omega) ho he hf m) fun σ H Q h => by
    obtain ⟨ρ, E, M, er, sr, h⟩ := h
    have h : post X.K X.mg W σ H ρ ((evE c eo E M).bind fun x M1 => if bmOk M1 .get x then ((evE c ee E M1).bind fun y M2 => ((evE c ef E M2).bind fun z M3 => doBm M3 .get x [y, z])) else .bad) (gE X.K Q) := by
      have e0 : evE c (.bm .get eo (.cons ee (.cons ef .nil))) E M = (evE c eo E M).bind fun x M1 => if bmOk M1 .get x then ((evE c ee E M1).bind fun y M2 => ((evE c ef E M2).bind fun z M3 => doBm M3 .get x [y, z])) else .bad := by
        simp only [evE, evEs, Res.bind_assoc, Res.bind_ok]
      rw [← e0]; exact h
    refine ⟨ρ, E, M, er, sr, post_imp (post_bind h) fun ρ1 H1 x M1 e1 s1 h1 v1 r1 => ?_⟩
    split at h1
    · rename_i hb
      cases r1 with
      | @loc n a ha =>
        simp only [bmOk] at hb
        split at hb
        · exact absurd hb (by decide)
        · rename_i kvs hm
          obtain ⟨us, g1, g2⟩ := s1.dic ha hm
          have r1 : RP X.K H1 ρ1 (.loc n) (.ref a) := .loc ha
          have er1 := er.ext sr.mv e1
          refine ⟨a, rfl, Or.inl ⟨us, Rd.of g1⟩, ρ1, E, M1, er1, s1, post_imp (post_bind h1) fun ρ2 H2 y M2 e2 s2 h2 v2 r2 => ?_⟩
          have er2 := er1.ext s1.mv e2
          refine ⟨ρ2, E, M2, er2, s2, post_imp (post_bind h2) fun ρ3 H3 z M3 e3 s3 h3 v3 r3 => ?_⟩
          have r1 := (r1.ext s1.mv e2).ext s2.mv e3
          have r2 := r2.ext s2.mv e3
          cases r1 with
          | loc ha3 =>
            simp only [doBm] at h3
            split at h3
            · exact h3.elim
            · rename_i kvs3 hm3
              obtain ⟨us3, k1, k2⟩ := s3.dic ha3 hm3
              split at h3
              · rename_i hk
                obtain ⟨q, hq, rfl⟩ := key_rel r2 hk
                have vv := valV_of hq k2
                refine ⟨_, DGet.k k1, ?_⟩
                have q1 := post_ok h3 s3
                cases hl : kvs3.lookup y with
                | none => rw [hl] at q1; rw [vv.2 hl]; exact q1 _ r3
                | some p =>
                  obtain ⟨v, w1, w2⟩ := vv.1 p hl
                  rw [hl] at q1; rw [w1]; exact q1 _ w2
              · exact h3.elim
            · exact h3.elim
        · cases hb
      | _ => cases hb
    · exact h1.elim
end
/-! ### xs[::-1] -/
section
variable {prog : Program} {w : World} {A : Around} {E : Value → Shared → Prop} {s : Shared}
theorem slice_rev {sl : Addr} {vs : Value} {n : Nat} {Q : Int × Int × Nat → Shared → Prop} (hs : s.heap.IsSliceOf sl .none .none vs) (ps : IsPart vs (some (-1))) (h : Q ((n : Int) - 1, -1, n) s) : wpAny (model prog w) A (Builtin.Slice.sliceApplied (.ref sl) (pure (n : Int))) Q E s := by
  obtain ⟨os, hos, hcs, hds⟩ := id hs
  unfold Builtin.Slice.sliceApplied Builtin.Slice.sliceFields
  refine wpAny_bind (wpAny_bind (wpAny_field hos hds (x := .none) rfl (wpAny_bind (wpAny_field hos hds (x := .none) rfl (wpAny_bind (wpAny_field hos hds (x := vs) rfl (wpAny_pure ?_)))))))
  refine wpAny_bind (HT.slicePart_ ps ?_)
  show wpAny _ _ (if ((-1 : Int) == 0) = true then _ else _) _ _ s
  rw [if_neg (by decide)]
  refine wpAny_bind (slicePart_none (wpAny_bind (slicePart_none (wpAny_bind (wpAny_pure ?_)))))
  have e1 : Builtin.Slice.slicePlaces ((n : Int) - 1) (-1) (-1) = n := by
    unfold Builtin.Slice.slicePlaces
    by_cases h0 : n = 0
    · subst h0; rfl
    · have h1 : ((n : Int) - 1 > -1) := by omega
      have h2 : ¬ ((-1 : Int) > 0) := by decide
      simp only [h2, if_false, h1, if_true]
      have h3 : (-(-1) : Int) = 1 := rfl
      rw [h3, Int.ediv_one]; omega
  show wpAny _ _ (pure ((n : Int) - 1, (-1 : Int), Builtin.Slice.slicePlaces ((n : Int) - 1) (-1) (-1))) _ _ s
  rw [e1]
  exact wpAny_pure h
theorem pick_rev (xs : Array Value) : ((List.range xs.size).filterMap fun (m : Nat) => xs[((xs.size : Int) - 1 + (m : Int) * -1).toNat]?).toArray = xs.toList.reverse.toArray := by
  congr 1
  have h := PySem.W.krv_all xs
  have e : (fun (m : Nat) => xs[((xs.size : Int) - 1 + (m : Int) * -1).toNat]?) = (fun k => xs[k]?) ∘ fun (k : Nat) => ((xs.size : Int) - 1 + (k : Int) * -1).toNat := rfl
  rw [e, ← List.filterMap_map]
  have e2 : (List.range xs.size).map (fun (k : Nat) => ((xs.size : Int) - 1 + (k : Int) * -1).toNat) = (List.range xs.size).reverse := by
    rw [← PySem.W.krv_range]
    apply List.map_congr_left
    intro k hk
    have := List.mem_range.mp hk
    omega
  rw [e2, List.filterMap_reverse, h]
theorem get_tup_rev {t sl : Addr} {items : Array Value} {vs : Value} {Q : Value → Shared → Prop} (ht : IsTup s.heap t items) (hs : s.heap.IsSliceOf sl .none .none vs) (ps : IsPart vs (some (-1)))
    (h : Q (.ref s.heap.objs.size) { s with heap := s.heap.push { cls := .type "tuple", data := .seq items.toList.reverse.toArray } }) (hsz : items.size ≤ sizeLine) : wpAny (model prog w) A (getItem (.ref t) (.ref sl)) Q E s := by
  have htake : sizeOk (.seq items.toList.reverse.toArray) := by
    show items.toList.reverse.toArray.size ≤ sizeLine
    rw [List.size_toArray, List.length_reverse, Array.length_toList]; exact hsz
  obtain ⟨os, hos, hcs, hds⟩ := id hs
  have hTs : s.TypeIs (.ref sl) "slice" := ⟨os, hos, hcs⟩
  unfold getItem
  try with_reducible refine wpAny_holding ?_
  first | refine wpAny_bind (wpAny_pure ?_) | skip
  refine wpAny_bind (wpAny_sequenceKey ht.typeIs (by decide) ?_)
  refine wpAny_bind (wpAny_callSpecial?_slot (name := Str.ofString "__getitem__") ht.typeIs PyProof.Rows.slot_tuple_getitem
    (wpAny_call_entry PyProof.Rows.slot_tuple_getitem ht.typeIs entry_tuple_getitem ?_ (args_tuple_getitem _ _)))
  show wpAny _ _ (Builtin.Tuple.tupleItemsOf (.ref t) >>= _) _ _ s
  refine wpAny_bind (tupleItemsOf_ ht ?_)
  refine wpAny_bind (wpAny_typeOf hTs ?_)
  rw [if_pos (by decide)]
  refine wpAny_bind (slice_rev hs ps ?_)
  have hno : ¬ (((items.size : Int) - 1 == 0 && (-1 : Int) == 1 && items.size == items.size) = true) := by
    intro q
    rw [Bool.and_eq_true, Bool.and_eq_true] at q
    exact absurd q.1.2 (by decide)
  show wpAny _ _ (if ((items.size : Int) - 1 == 0 && (-1 : Int) == 1 && items.size == items.size) = true then _ else _) _ _ s
  rw [if_neg hno, pick_rev]
  first
    | exact wpAny_bind (m := Builtin.Tuple.tupleExact _) (wpAny_newObj_type (wpAny_pure ⟨_, rfl, wpAny_pure h⟩) htake)
    | exact wpAny_bind (m := Builtin.Tuple.tupleExact _) (wpAny_newObj_type (wpAny_bind (wpAny_pure (wpAny_pure ⟨_, rfl, wpAny_pure h⟩))) htake)
    | exact wpAny_bind (wpAny_bind (m := Builtin.Tuple.tupleExact _) (wpAny_newObj_type (wpAny_pure (wpAny_pure ⟨_, rfl, wpAny_pure h⟩)) htake))
    | exact wpAny_bind (wpAny_bind (m := Builtin.Tuple.tupleExact _) (wpAny_newObj_type (wpAny_pure ⟨_, rfl, wpAny_pure h⟩) htake))
end
section
variable {X : Cx} {W : EW} {c : Ctx} {e : Expr} {m : Ex}
/-- a list or a tuple, turned about -/
def tRev (K : PySem.W.Frag) (te : TE) : TE := fun σ H Q => te σ H fun x H1 => ∃ a xs, x = .ref a ∧ ((SqL K H1 a xs ∧ ∀ p, H1 p = none → Q (.ref p) (upd H1 p (.lst xs.reverse))) ∨ (SqT K H1 a xs ∧ ∀ p, H1 p = none → Q (.ref p) (upd H1 p (.tup xs.reverse))))
theorem pe_rev {te : TE} {k : Nat} {p1 p2 p3 pos : Pos} (he : PE X e te) : PE X (.Subscript e (.Slice none none (some (.UnaryOp .USub (.Constant (.int 1) k p1) p2)) p3) pos) (tRev X.K te) := by
  refine ⟨fun pins s σ H Q I h => ?_⟩
  refine Subscript_ (thn (he.run pins s σ H _ I h) fun v s1 ⟨x, H1, I1, r1, q1⟩ => ?_)
  obtain ⟨a, xs, ex, hx⟩ := q1
  subst ex
  cases r1
  have hst : PO X (some (.UnaryOp .USub (.Constant (.int 1) k p1) p2)) (tPart (tUn (rU fun i => .int (-i)) (tC (.int 1)))) := po_some (pe_un un_neg pe_int)
  refine wpAny_Slice (thn (po_none.run pins s1 σ H1 (fun o H2 => o = none ∧ H2 = H1) I1 ⟨rfl, rfl⟩) fun vl s2 ⟨l, H2, I2, pl, el, e2⟩ => ?_)
  subst el e2
  refine thn (po_none.run pins s2 σ H2 (fun o H3 => o = none ∧ H3 = H2) I2 ⟨rfl, rfl⟩) fun vu s3 ⟨u, H3, I3, pu, eu, e3⟩ => ?_
  subst eu e3
  refine thn (hst.run pins s3 σ H3 (fun o H4 => o = some (-1) ∧ H4 = H3) I3 ⟨1, rfl, -1, rfl, rfl, rfl⟩) fun vs s4 ⟨o, H4, I4, ps, eo, e4⟩ => ?_
  subst eo e4
  cases pl
  cases pu
  have I5 : Inv X pins σ H4 { s4 with heap := s4.heap.push { cls := .type "slice", data := .fields #[.none, .none, vs] } } := I4.kept (t' := s4.toks) fun b ob q => Heap.get?_push_of_some _ q
  show wpAny (model X.prog X.w) X.A (subscriptTail e (.Slice none none (some (.UnaryOp .USub (.Constant (.int 1) k p1) p2)) p3) (.ref a) (.ref s4.heap.objs.size)) (EP X pins σ Q) X.xe { s4 with heap := s4.heap.push { cls := .type "slice", data := .fields #[.none, .none, vs] } }
  rcases hx with ⟨hx, q⟩ | ⟨hx, q⟩
  · obtain ⟨its, r, ht, hz⟩ := I5.list hx
    have hlen := r.length
    refine tail_any (ops := [.ref a, .ref s4.heap.objs.size]) ht.isList.typeIs (PySem.slot_list_getitem.lookup) ?_ (by with_unfolding_all rfl)
    refine wpAny_getItem_list_slice ht.isList (Heap.IsSliceOf.new _ .none .none vs) .none .none ps (by decide) ?_ (by rw [List.size_toArray]; omega)
    rw [PySem.W.krv_pick]
    refine ⟨.ref _, _, I5.laid (t' := s4.toks) (o := .lst xs.reverse) (fun b ob q => Heap.get?_push_of_some _ q) (Nat.le_refl _) ?_, rfl, q _ (I5.hok.fresh (Nat.le_refl _))⟩
    exact ⟨by rw [List.length_reverse]; exact hz, _, 0, r.reverse, Heap.get?_push_size _ rfl⟩
  · obtain ⟨its, r, ht, hz⟩ := I5.tuple hx
    have hlen := r.length
    refine tail_any (ops := [.ref a, .ref s4.heap.objs.size]) ht.typeIs (PyProof.Rows.slot_tuple_getitem.lookup) ?_ (by with_unfolding_all rfl)
    refine get_tup_rev ht (Heap.IsSliceOf.new _ .none .none vs) ps ?_ (by rw [List.size_toArray]; omega)
    refine ⟨.ref _, _, I5.laid (t' := s4.toks) (o := .tup xs.reverse) (fun b ob q => Heap.get?_push_of_some _ q) (Nat.le_refl _) ?_, rfl, q _ (I5.hok.fresh (Nat.le_refl _))⟩
    exact ⟨by rw [List.length_reverse]; exact hz, _, r.reverse, IsTup.new _ _⟩
theorem e_rev {k : Nat} {p1 p2 p3 pos : Pos} (he : SE X W c e m) : SE X W c (.Subscript e (.Slice none none (some (.UnaryOp .USub (.Constant (.int 1) k p1) p2)) p3) pos) (.rev m) :=
  pe_imp (pe_rev he) fun σ H Q h => by
    obtain ⟨ρ, E, M, er, sr, h⟩ := h
    refine ⟨ρ, E, M, er, sr, post_imp (post_bind h) fun ρ1 H1 x M1 e1 s1 h1 v1 r1 => ?_⟩
    cases r1 with
    | @tup t vs xs ht rt => exact ⟨t, vs, rfl, Or.inr ⟨ht, fun p hp => lay_tup s1 rt.reverse h1 hp⟩⟩
    | @loc n a ha =>
      dsimp only at h1
      split at h1
      · rename_i xs hm
        obtain ⟨vs, g1, g2⟩ := s1.lst ha hm
        exact ⟨a, vs, rfl, Or.inl ⟨SqL.of g1, fun p hp => lay_lst s1 g2.reverse h1 hp⟩⟩
      · exact h1.elim
    | _ => exact h1.elim
end
/-! ### len(set(xs)), xs a list of texts -/
section
variable {prog : Program} {w : World} {A : Around} {R : Result → Shared → Prop} {I : Addr} {fp wr : List Addr} {G : Array GenState → Array GenState → Prop} {n : Nat} {P : Nat → Value → Prop} {St : Nat → Shared → Prop}
theorem take_snoc {xs : List Str} {i : Nat} (h : i < xs.length) : xs.take (i + 1) = xs.take i ++ [xs.getD i Str.empty] ∧ xs.drop i = xs.getD i Str.empty :: xs.drop (i + 1) := by
  have e : xs.getD i Str.empty = xs[i] := by simp [List.getD, h]
  rw [e]
  exact ⟨List.take_succ_eq_append_getElem h, List.drop_eq_getElem_cons h⟩
theorem loop_texts (W : WalksS prog w A.in1 I fp wr G n P St) (S : Addr) (hSf : S ∉ fp) (xs : List Str) (hsz : xs.length = n) (hn : n ≤ 1000) (hval : ∀ i v, P i v → ∃ t, v = .str (xs.getD i Str.empty) t) :
    ∀ (k i m : Nat) (s : Shared), n - i = k → i ≤ n → m ≤ i → m + dcount (xs.take i) (xs.drop i) = dcount [] xs → St i s →
      s.heap.SetOf (PySem.strKind prog w) S (fun k' => (xs.take i).any (· == k')) m →
      (∀ s', Moved (S :: wr) G s s' → s'.heap.SetOf (PySem.strKind prog w) S (fun k' => (xs.take n).any (· == k')) (dcount [] xs) → R (.ok (.ret .none)) s') →
      codeAny (model prog w) A (.builtin "set.update.loop" ⟨[.ref S, .ref I], []⟩) R s := by
  have hSw : S ∉ wr := fun h => hSf (W.sub _ h)
  have hsub : ∀ b ∈ wr, b ∈ S :: wr := fun b hb => List.mem_cons_of_mem _ hb
  intro k
  induction k with
  | zero =>
    intro i m s hk hi hmi hd hst hS hR
    have hin : i = n := by omega
    subst hin
    have hm : m = dcount [] xs := by
      rw [← hsz, List.drop_length] at hd
      simpa [dcount] using hd
    refine codeAny_builtin PyProof.Rows.F.entry_set_update_loop ?_
    rw [Around.under_plainId PyProof.Rows.F.plain_set_update_loop _]
    show wpAny _ A.in1 (pyNext (.ref I) >>= _) _ _ s
    refine wpAny_bind (W.done s _ _ hst fun s' hmv => ?_)
    show wpAny _ A.in1 (ret Value.none) _ _ s'
    rw [hm] at hS
    exact wpAny_pure (hR s' (hmv.mono hsub) (by
      obtain ⟨o, es, ep, t, ho, rest⟩ := hS
      exact ⟨o, es, ep, t, hmv.heap S _ hSw ho, rest⟩))
  | succ k ih =>
    intro i m s hk hi hmi hd hst hS hR
    have hlt : i < n := by omega
    obtain ⟨ht1, ht2⟩ := take_snoc (xs := xs) (i := i) (by omega)
    refine codeAny_builtin PyProof.Rows.F.entry_set_update_loop ?_
    rw [Around.under_plainId PyProof.Rows.F.plain_set_update_loop _]
    show wpAny _ A.in1 (pyNext (.ref I) >>= _) _ _ s
    refine wpAny_bind (W.item i s _ _ hlt hst fun v s' hP hst' hm => ?_)
    obtain ⟨t, rfl⟩ := hval i v hP
    generalize xs.getD i Str.empty = x at ht1 ht2
    have hS' : s'.heap.SetOf (PySem.strKind prog w) S (fun k' => (xs.take i).any (· == k')) m := by
      obtain ⟨o, es, ep, tb, ho, rest⟩ := hS
      exact ⟨o, es, ep, tb, hm.heap S _ hSw ho, rest⟩
    show wpAny _ A.in1 (holding [Value.str x t] (setAdd S (.str x t)) >>= _) _ _ s'
    refine wpAny_bind (wpAny_holding ?_)
    unfold setAdd
    refine wpAny_holding ?_
    refine wpAny_bind ((PySem.strKind prog w).pyHash (k := x) (strKind_is _ _ _ _) ?_)
    refine wpAny_setAddHashed_of (knd := PySem.strKind prog w) (s := { s' with toks := s'.toks + 1 }) (strKind_is _ _ _ _) rfl hS' (by unfold scanBound; omega) fun h' hsb hS2 => ?_
    have hSi : h'.SetOf (PySem.strKind prog w) S (fun k' => (xs.take (i + 1)).any (· == k')) (if (xs.take i).any (· == x) then m else m + 1) := by
      refine SetOf_congr hS2 (fun k' => ?_) rfl
      rw [ht1, List.any_append]
      congr 1
      by_cases e : k' = x
      · subst e; simp
      · have hb : (x == k') = false := by simpa [beq_iff_eq] using (fun h' : x = k' => e h'.symm)
        simp [hb, e]
    have hcd : dcount (xs.take i) (xs.drop i) = (if (xs.take i).any (· == x) then 0 else 1) + dcount (xs.take (i + 1)) (xs.drop (i + 1)) := by
      rw [ht2, ht1, dcount]
    refine wpAny_pure ⟨plainId_quiet PyProof.Rows.F.plain_set_update_loop _, ih (i + 1) _ _ (by omega) hlt (by split <;> omega) (by rw [← hd, hcd]; split <;> omega) (W.frame _ s' _ _ hst' (Nat.le_succ _) fun b hb o e => ?_) hSi fun s'' hm'' hS'' => ?_⟩
    · rw [hsb.2 b (fun h : b = S => hSf (by rw [← h]; exact hb))]; exact e
    · refine hR s'' (Moved.trans W.gtrans ((hm.mono hsub).then_heap (Nat.le_succ _) fun b o hb e => ?_) hm'') hS''
      rw [hsb.2 b (fun h : b = S => hb (by rw [h]; exact List.mem_cons_self))]; exact e
end
section
variable {prog : Program} {w : World} {A : Around} {E : Value → Shared → Prop} {s : Shared}
theorem set_texts {l : Addr} {items : Array Value} {xs : List Str} {Q : Value → Shared → Prop}
    (hh : A.handled = none) (hl : s.heap.IsList l items) (hi : PyProof.Rows.StrsAre items.toList xs) (hn : xs.length ≤ 1000)
    (h : ∀ (h' : Heap) (tk : Nat), h'.SetOf (PySem.strKind prog w) s.heap.objs.size (fun k' => (xs.take items.size).any (· == k')) (dcount [] xs) →
      (∀ b o, b < s.heap.objs.size → s.heap.get? b = some o → h'.get? b = some o) → Q (.ref s.heap.objs.size) { s with heap := h', toks := tk }) :
    wpAny (model prog w) A (call (.type "set") [.ref l]) Q E s := by
  obtain ⟨c, tl, hmro⟩ := PySem.F.called_set.mro
  have hmade := PySem.F.called_set.made
  have hsub := PySem.F.called_set.sub
  refine wpAny_call (codeAny_of_tree ?_)
  show wpAny _ _ (callAny (.type "set") _) _ _ _
  refine wpAny_pure ⟨Code.quiet_builtin _ (by decide +kernel), codeAny_builtin PySem.F.entry_type_call ?_⟩
  rw [Around.under_plain (weight_type_call_type "set" [.ref l] []) rfl]
  have h1 := PySem.F.called_set.notType
  have h2 := PySem.F.called_set.canCreate
  have hct := PySem.F.typeCall_set_1 (.ref l)
  repeat (any_goals (first | assumption | wp_step))
  refine codeAny_mono (code_set_new_1 (.ref l) (E := E) (Q₁ := fun obj s₁ => ∃ led : Bool, obj = .ref s.heap.objs.size ∧ s₁ = { s with heap := s.heap.push { cls := .type "set", dict := none, data := .set #[] 0 (.fresh 0 0 led) } }) fun led => ⟨led, rfl, rfl⟩) fun r s₁ hr => ?_
  cases r with
  | error e => exact hr
  | ok fl =>
    cases fl with
    | ret obj =>
      obtain ⟨led, rfl, rfl⟩ := hr
      have hS : (s.heap.push { cls := .type "set", dict := none, data := .set #[] 0 (.fresh 0 0 led) }).get? s.heap.objs.size = some { cls := .type "set", dict := none, data := .set #[] 0 (.fresh 0 0 led) } := Heap.get?_push_size _ rfl
      have hT : Shared.TypeIs { s with heap := s.heap.push { cls := .type "set", dict := none, data := .set #[] 0 (.fresh 0 0 led) } } (.ref s.heap.objs.size) "set" := ⟨_, hS, rfl⟩
      have hli := PySem.F.called_set.init.lookup
      have hbi := PySem.F.called_set.init.bind (.ref s.heap.objs.size)
      repeat (any_goals (first | assumption | wp_step))
      refine codeAny_mono (codeAny_call_builtin (R := wants (fun r s₂ => r = .none ∧ ∃ h' tk, s₂ = { s with heap := h', toks := tk } ∧
          h'.SetOf (PySem.strKind prog w) s.heap.objs.size (fun k' => (xs.take items.size).any (· == k')) (dcount [] xs) ∧
          (∀ b o, b < s.heap.objs.size → s.heap.get? b = some o → h'.get? b = some o)) E) PySem.F.called_set.init.plain PySem.F.entry_set_init (check_set_init_1 hT ?_)) fun r₂ s₂ hr₂ => ?_
      · obtain ⟨ol, hol, hcl, nl, hdl⟩ := hl
        obtain ⟨ocls, odict, odata, oslots⟩ := ol
        simp only at hcl hdl
        subst hcl; subst hdl
        have hol' : (s.heap.push { cls := .type "set", dict := none, data := .set #[] 0 (.fresh 0 0 led) }).get? l = some { cls := .type "list", dict := odict, data := .seq items nl, slots := oslots } := Heap.get?_push_of_some _ hol
        have hsls := PySem.F.sub_list_set
        have hslf := PySem.F.sub_list_frozenset
        have hne : (Value.type "list" == Value.type "dict") = false := by decide
        have hl1 : (s.heap.push { cls := .type "set", dict := none, data := .set #[] 0 (.fresh 0 0 led) }).IsList l items := ⟨_, hol', rfl, nl, rfl⟩
        unfold Builtin.«set.__init__» noKeywords Builtin.Frozenset.updateFrom
        generalize hPI : pyIter = PI
        wp_walk
        subst hPI
        refine wpAny_pyIter_list hl1 ?_
        refine wpAny_bind (wpAny_runValue ?_)
        have hlS : l < s.heap.objs.size := Heap.lt_size hol
        have hh3 : A.in1.in1.in1.handled = none := by simp [hh]
        have hneI : l ≠ (s.heap.push { cls := .type "set", dict := none, data := .set #[] 0 (.fresh 0 0 led) }).objs.size := by
          rw [Heap.size_push]; exact Nat.ne_of_lt (Nat.lt_succ_of_lt hlS)
        have hSf : s.heap.objs.size ∉ [(s.heap.push { cls := .type "set", dict := none, data := .set #[] 0 (.fresh 0 0 led) }).objs.size, l] := by
          rw [Heap.size_push]; simp only [List.mem_cons, List.mem_singleton, List.not_mem_nil, or_false, not_or]
          exact ⟨Nat.ne_of_lt (Nat.lt_succ_self _), Nat.ne_of_gt hlS⟩
        have hsz : xs.length = items.size := by rw [← StrsAre.len_eq hi, Array.length_toList]
        have hval : ∀ (i : Nat) (v : Value), items[i]? = some v → ∃ t, v = .str (xs.getD i Str.empty) t := fun i v hv => SS.strs_at hi i v (by rw [Array.getElem?_toList]; exact hv)
        refine loop_texts ((Walks.list hh3 _ l hneI items).toS) s.heap.objs.size
          hSf xs hsz (by rw [← hsz]; exact hn) hval (items.size - 0) 0 0 _ (by omega) (Nat.zero_le _) (Nat.le_refl _) (by simp)
          ⟨⟨_, Heap.get?_push_size _ rfl, rfl, rfl⟩, (hl1.push _)⟩ ?hS0 ?hR
        case hS0 =>
          have hget : ((s.heap.push { cls := .type "set", dict := none, data := .set #[] 0 (.fresh 0 0 led) }).push { cls := .type "list_iterator", data := .fields #[.ref l, .int 0 0] }).get? s.heap.objs.size = some { cls := .type "set", dict := none, data := .set #[] 0 (.fresh 0 0 led) } := Heap.get?_push_of_some _ hS
          exact PyProof.Rows.SetOf_congr ((PyProof.Rows.setObjOf_fresh (knd := PySem.strKind prog w) led).setOf hget (by unfold scanBound; omega)) (fun _ => rfl) rfl
        case hR =>
          intro s' hm hS'
          obtain ⟨h', g', d', tk', os'⟩ := s'
          have eg : g' = s.gens := hm.gens
          have ed : d' = s.drawn := hm.drawn
          have eo : os' = s.os := hm.os
          subst eg; subst ed; subst eo
          show wpAny _ _ _ _ _ _
          refine wpAny_pure ?_
          show wpAny _ _ (ret Value.none) _ _ _
          refine wpAny_pure ⟨rfl, h', tk', rfl, hS', fun b o hb e => ?_⟩
          have hb1 : b ≠ s.heap.objs.size := Nat.ne_of_lt hb
          have hb2 : b ≠ (s.heap.push { cls := .type "set", dict := none, data := .set #[] 0 (.fresh 0 0 led) }).objs.size := by
            rw [Heap.size_push]; exact Nat.ne_of_lt (Nat.lt_succ_of_lt hb)
          exact hm.heap b o (by simp only [List.mem_cons, List.mem_singleton, List.not_mem_nil, or_false, not_or]; exact ⟨hb1, hb2⟩) (Heap.get?_push_of_some _ (Heap.get?_push_of_some _ e))
      · cases r₂ with
        | error e => exact hr₂
        | ok fl₂ =>
          cases fl₂ with
          | ret r =>
            obtain ⟨rfl, h', tk, rfl, hS', hk'⟩ := hr₂
            repeat (any_goals (first | assumption | wp_step))
            exact h _ _ hS' hk'
          | _ => exact hr₂.elim
    | _ => exact hr.elim
end
section
variable {X : Cx} {W : EW} {c : Ctx} {a : Expr} {m : Ex}
def tLenTx (K : PySem.W.Frag) (ta : TE) : TE := fun σ H Q => ta σ H fun x H1 => ∃ l, ∃ xs : List Str, x = .ref l ∧ SqL K H1 l (xs.map V.str) ∧ xs.length ≤ 1000 ∧ Q (.int (dcount [] xs : Nat)) H1
theorem dcount_le : ∀ (xs seen : List Str), dcount seen xs ≤ xs.length
  | [], _ => Nat.le_refl _
  | x :: xs, seen => by have := dcount_le xs (seen ++ [x]); simp only [dcount, List.length_cons]; split <;> omega
theorem pe_lenTx {ta : TE} {p p2 q pos : Pos} (hc : X.calm = true) (hg : Gl X "len") (hm : X.mg "len" = none) (hg2 : Gl X "set") (hm2 : X.mg "set" = none) (ha : PE X a ta)
    (na : starEach [a] X.env = (false, eval a X.env) :: starEach [] X.env) : PE X (.Call (.Name "len" p) [.Call (.Name "set" p2) [a] [] q] [] pos) (tLenTx X.K ta) := by
  refine ⟨fun pins s σ H Q I h => ?_⟩
  refine Call_ (ld_blt I hg hm boot_len ?_)
  refine PyProof.Rows.callWith_builtin1 (PyProof.Rows.args_cons ?_ rfl) rfl rfl
  refine Call_ (ld_blt I hg2 hm2 boot_set ?_)
  refine PyProof.Rows.callWith_type1 (PyProof.Rows.args_cons (thn (ha.run pins s σ H _ I h) fun v s1 ⟨x, H1, I1, r1, q1⟩ => PyProof.Rows.args_nil ?_) na) na rfl
  obtain ⟨l, xs, rfl, hq, hl, q1⟩ := q1
  cases r1
  obtain ⟨its, r, pl, hz⟩ := I1.list hq
  refine set_texts (I1.ok.hd hc) pl.isList (by simpa using strsAre_of r) hl fun h' tk hS hk => ?_
  refine PyProof.Rows.args_nil ?_
  obtain ⟨o, es, ep, t, ho, hex, hd, _, _, _, hf, hn⟩ := hS
  have I2 : Inv X pins σ H1 { s1 with heap := h', toks := tk } := I1.kept fun b o e => hk b o (Heap.lt_size e) e
  have := dcount_le xs []
  exact call_len_set ho hex hd hf (by rw [hn] <;> omega) ⟨.int (dcount [] xs : Nat), H1, I2.tok _, ⟨_, by rw [hn]⟩, q1⟩
theorem strs_rel {K : PySem.W.Frag} {H : Hp} {ρ : List Addr} : ∀ {ys : List PV} {vs : List V} {xs : List Str}, RPs K H ρ ys vs → strsOf ys = some xs → vs = xs.map V.str
  | _, _, xs, .nil, h => by cases h; rfl
  | _, _, xs, .cons (x := x) r rs, h => by
    cases r with
    | str s =>
      simp only [strsOf, Option.map_eq_some_iff] at h
      obtain ⟨zs, h1, rfl⟩ := h
      rw [strs_rel rs h1]; rfl
    | _ => simp [strsOf] at h
theorem e_lenset {p p2 q pos : Pos} (hc : X.calm = true) (hg : Gl X "len") (hm : X.mg "len" = none) (hg2 : Gl X "set") (hm2 : X.mg "set" = none) (ha : SE X W c a m) (hs : isStar a = false) :
    SE X W c (.Call (.Name "len" p) [.Call (.Name "set" p2) [a] [] q] [] pos) (.bi .lenset (.cons m .nil)) :=
  pe_imp (pe_lenTx hc hg hm hg2 hm2 ha (star_cons hs)) fun σ H Q h => by
    obtain ⟨ρ, E, M, er, sr, h⟩ := h
    have h : post X.K X.mg W σ H ρ ((evE c m E M).bind fun x M1 => doBi M1 .lenset [x]) (gE X.K Q) := by
      have e0 : evE c (.bi .lenset (.cons m .nil)) E M = (evE c m E M).bind fun x M1 => doBi M1 .lenset [x] := by
        simp only [evE, evEs, Res.bind_assoc, Res.bind_ok]
      rw [← e0]; exact h
    refine ⟨ρ, E, M, er, sr, post_imp (post_bind h) fun ρ1 H1 x M1 e1 s1 h1 v1 r1 => ?_⟩
    cases r1 with
    | @loc n b hb =>
      simp only [doBi] at h1
      split at h1
      · rename_i ys hm
        obtain ⟨vs, g1, g2⟩ := s1.lst hb hm
        split at h1
        · rename_i xs hx
          split at h1
          · rename_i hl
            have hv := strs_rel g2 hx
            subst hv
            exact ⟨b, xs, rfl, SqL.of g1, hl, post_ok h1 s1 _ (.int _)⟩
          · exact h1.elim
        · exact h1.elim
      · exact h1.elim
    | _ => exact h1.elim
end
end Wn
end
section
/-! So14: a text and its term: the look, and that the term tells what the text does. -/
namespace Wn
open PySem PySem.Spec PyProof.Rows L2

def biName : Bi → String
  | .len => "len" | .list => "list" | .tuple => "tuple" | .dict => "dict" | .set => "set" | .int => "int" | .max => "max" | .min => "min" | .sum => "sum" | .all => "all" | .any => "any" | .sorted => "sorted" | .str => "str" | .repr => "repr" | .lenset => "len" | .sortset => "sorted" | .zipl => "list" | .zipd => "dict" | .maxl => "max" | .minl => "min"
def biSup : Bi → Bool
  | .set => false | .sorted => false | .str => false | .repr => false | .lenset => false | .sortset => false | .zipl => false | .zipd => false | .maxl => false | .minl => false
  | _ => true
def biIsTy : Bi → Bool
  | .list => true | .tuple => true | .dict => true | .int => true
  | _ => false
def bmName : Bm → String
  | .append => "append" | .extend => "extend" | .pop => "pop" | .clear => "clear" | .get => "get"
  | _ => ""
def bmSup : Bm → Bool
  | .append => true | .extend => true | .pop => true | .clear => true
  | _ => false
/-- the built-in names that are leant on -/
def biNames : List Str := ["len", "list", "tuple", "dict", "int", "max", "min", "sum", "all", "any", "isinstance", "str", "bool", "range", "enumerate", "zip", "sorted", "set", "repr"]
def nameOf : Expr → Str
  | .Name x _ => x
  | _ => Str.empty
def tgOwn : Tg → Expr → List (Str × Nat)
  | .nm i, .Name x _ => [(x, i)]
  | .tup is, .Tuple es _ _ => (es.map nameOf).zip is
  | _, _ => []
def tgB (N : List Str) (sc : Scope) (fn : Str → Bool) : Tg → Expr → Bool
  | .nm i, e => (match e with
    | .Name x _ => decide (N[i]? = some x) && locB sc fn x
    | _ => false)
  | .tup is, e => (match e with
    | .Tuple es _ _ => tgNames is es N sc fn
    | _ => false)
def isTupE : Expr → Bool
  | .Tuple .. => true
  | _ => false

mutual
def cE (T : Tbl) (N : List Str) (sc : Scope) (fn : Str → Bool) : Ex → Expr → Bool
  | .var i, e => (match e with
    | .Name x _ => decide (N[i]? = some x) && visB sc x && plainName x
    | _ => false)
  | .int i, e => (match e with
    | .Constant (.int j) _ _ => decide (j = i)
    | _ => false)
  | .str i, e => (match e with
    | .Constant (.str j) _ _ => decide (j = i)
    | _ => false)
  | .bl i, e => (match e with
    | .Constant (.bool j) _ _ => decide (j = i)
    | _ => false)
  | .non, e => (match e with
    | .Constant .none _ _ => true
    | _ => false)
  | .glo x, e => (match e with
    | .Name y _ => decide (y = x) && globB sc y && plainName y
    | _ => false)
  | .bin o a b, e => (match e with
    | .BinOp l op r _ => decide (op = opOf o) && cE T N sc fn a l && cE T N sc fn b r
    | _ => false)
  | .neg a, e => (match e with
    | .UnaryOp .USub x _ => cE T N sc fn a x
    | _ => false)
  | .cmp o a b, e => (match e with
    | .Compare l [op] [r] _ => decide (op = cmpOf o) && notSet r && cE T N sc fn a l && cE T N sc fn b r
    | _ => false)
  | .chain o p a b d, e => (match e with
    | .Compare l [op, op'] [r, s] _ => decide (op = cmpOf o) && decide (op' = cmpOf p) && notSet s && cE T N sc fn a l && cE T N sc fn b r && cE T N sc fn d s
    | _ => false)
  | .and_ a b, e => (match e with
    | .BoolOp .And (x :: y :: rest) pos => cE T N sc fn a x && (match rest with
      | [] => cE T N sc fn b y
      | _ => cE T N sc fn b (.BoolOp .And (y :: rest) pos))
    | _ => false)
  | .or_ a b, e => (match e with
    | .BoolOp .Or (x :: y :: rest) pos => cE T N sc fn a x && (match rest with
      | [] => cE T N sc fn b y
      | _ => cE T N sc fn b (.BoolOp .Or (y :: rest) pos))
    | _ => false)
  | .not_ a, e => (match e with
    | .UnaryOp .Not x _ => cE T N sc fn a x
    | _ => false)
  | .ite t a b, e => (match e with
    | .IfExp d x y _ => cT T N sc fn t d && cE T N sc fn a x && cE T N sc fn b y
    | _ => false)
  | .tup es, e => (match e with
    | .Tuple xs _ _ => cEs T N sc fn es xs
    | _ => false)
  | .lst es, e => (match e with
    | .List xs _ => cEs T N sc fn es xs
    | _ => false)
  | .dic es, e => (match e with
    | .Dict ks vs _ => cKV T N sc fn es ks vs && decide (ks.length ≤ 15)
    | _ => false)
  | .idx a b, e => (match e with
    | .Subscript x y _ => notSlice y && cE T N sc fn a x && cE T N sc fn b y
    | _ => false)
  | .slice a lo hi, e => (match e with
    | .Subscript x (.Slice l h none _) _ => cE T N sc fn a x && cO T N sc fn lo l && cO T N sc fn hi h
    | _ => false)
  | .call f es, e => (match e with
    | .Call (.Name x _) args [] _ => decide (x = f) && globB sc f && plainName f && (T.fn.lookup f).isSome && cEs T N sc fn es args
    | _ => false)
  | .bi f es, e => (match e with
    | .Call (.Name x _) args [] _ => (decide (x = (biName f : Str)) && biSup f && globB sc x && cEs T N sc fn es args && !args.isEmpty) || (decide (f = .lenset) && decide (x = "len") && globB sc "len" && globB sc "set" && (match args with
      | [.Call (.Name y _) args2 [] _] => decide (y = "set") && decide (args2.length = 1) && cEs T N sc fn es args2
      | _ => false))
    | _ => false)
  | .bm m o es, e => (match e with
    | .Call (.Attribute x name apos) args [] cpos => decide (name = (bmName m : Str)) && (bmSup m || (decide (m = .get) && decide (args.length = 2))) && baseOk x && (apos.endLine == cpos.line) && decide (args.length < 30) && cE T N sc fn o x && cEs T N sc fn es args
    | _ => false)
  | .isi a t, e => (match e with
    | .Call (.Name x _) [y, .Name z _] [] _ => decide (x = "isinstance") && decide (z = (tyName t : Str)) && !isOwn t && globB sc "isinstance" && globB sc (tyName t) && !isStar y && cE T N sc fn a y
    | _ => false)
  | .lc elt g it cond, e => (match e with
    | .ListComp el [⟨tg, iter, ifs, as⟩] scope _ => decide (as = 0) && blkC N sc scope (tgOwn g tg) && notSet iter && tgB N (relS scope sc) (fun x => scope.names.lookup x == some .cell) g tg && cI T N sc fn it tg iter &&
        cE T N (relS scope sc) (fun x => scope.names.lookup x == some .cell) elt el && cC T N (relS scope sc) (fun x => scope.names.lookup x == some .cell) cond ifs
    | _ => false)
  | .mov m, e => notComp e && cE T N sc fn m e
  | .rev m, e => (match e with
    | .Subscript x (.Slice none none (some (.UnaryOp .USub (.Constant (.int j) _ _) _)) _) _ => decide (j = 1) && cE T N sc fn m x
    | _ => false)
  | _, _ => false
def cT (T : Tbl) (N : List Str) (sc : Scope) (fn : Str → Bool) : Ex → Expr → Bool
  | .and_ a b, e => (match e with
    | .BoolOp .And (x :: y :: rest) pos => cT T N sc fn a x && (match rest with
      | [] => cT T N sc fn b y
      | _ => (match b with
        | .and_ _ _ => cT T N sc fn b (.BoolOp .And (y :: rest) pos)
        | _ => false))
    | _ => false)
  | .or_ a b, e => (match e with
    | .BoolOp .Or (x :: y :: rest) pos => cT T N sc fn a x && (match rest with
      | [] => cT T N sc fn b y
      | _ => (match b with
        | .or_ _ _ => cT T N sc fn b (.BoolOp .Or (y :: rest) pos)
        | _ => false))
    | _ => false)
  | .not_ a, e => (match e with
    | .UnaryOp .Not x _ => cT T N sc fn a x
    | _ => false)
  | .cmp o a b, e => (match e with
    | .Compare l [op] [r] _ => decide (op = cmpOf o) && notSet r && cE T N sc fn a l && cE T N sc fn b r
    | _ => false)
  | .chain o p a b d, e => (match e with
    | .Compare l [op, op'] [r, s] _ => decide (op = cmpOf o) && decide (op' = cmpOf p) && notSet s && cE T N sc fn a l && cE T N sc fn b r && cE T N sc fn d s
    | _ => false)
  | .var i, e => (match e with
    | .Name x _ => decide (N[i]? = some x) && visB sc x && plainName x
    | _ => false)
  | .call f es, e => (match e with
    | .Call (.Name x _) args [] _ => decide (x = f) && globB sc f && plainName f && (T.fn.lookup f).isSome && cEs T N sc fn es args
    | _ => false)
  | .bi f es, e => (match e with
    | .Call (.Name x _) args [] _ => decide (x = (biName f : Str)) && biSup f && globB sc x && cEs T N sc fn es args && !args.isEmpty
    | _ => false)
  | .isi a t, e => (match e with
    | .Call (.Name x _) [y, .Name z _] [] _ => decide (x = "isinstance") && decide (z = (tyName t : Str)) && !isOwn t && globB sc "isinstance" && globB sc (tyName t) && !isStar y && cE T N sc fn a y
    | _ => false)
  | .idx a b, e => (match e with
    | .Subscript x y _ => notSlice y && cE T N sc fn a x && cE T N sc fn b y
    | _ => false)
  | _, _ => false
def cEs (T : Tbl) (N : List Str) (sc : Scope) (fn : Str → Bool) : Exs → List Expr → Bool
  | .nil, es => es.isEmpty
  | .cons m ms, es => (match es with
    | e :: r => !isStar e && cE T N sc fn m e && cEs T N sc fn ms r
    | [] => false)
/-- the pairs of a display -/
def cKV (T : Tbl) (N : List Str) (sc : Scope) (fn : Str → Bool) : Exs → List (Option Expr) → List Expr → Bool
  | .nil, ks, vs => ks.isEmpty && vs.isEmpty
  | .cons m ms, ks, vs => (match ks, vs with
    | some k :: kr, v :: vr => cE T N sc fn m k && cV T N sc fn ms v kr vr
    | _, _ => false)
def cV (T : Tbl) (N : List Str) (sc : Scope) (fn : Str → Bool) : Exs → Expr → List (Option Expr) → List Expr → Bool
  | .nil, _, _, _ => false
  | .cons m ms, v, ks, vs => cE T N sc fn m v && cKV T N sc fn ms ks vs
def cO (T : Tbl) (N : List Str) (sc : Scope) (fn : Str → Bool) : Ox → Option Expr → Bool
  | .none, e => e.isNone
  | .some m, e => (match e with
    | some e => cE T N sc fn m e
    | none => false)
def cC (T : Tbl) (N : List Str) (sc : Scope) (fn : Str → Bool) : Ox → List Expr → Bool
  | .none, es => es.isEmpty
  | .some m, es => (match es with
    | [e] => cT T N sc fn m e
    | _ => false)
def cI (T : Tbl) (N : List Str) (sc : Scope) (fn : Str → Bool) : Ix → Expr → Expr → Bool
  | .of m, _, e => cE T N sc fn m e
  | .rng1 a, _, e => (match e with
    | .Call (.Name x _) [y] [] _ => decide (x = "range") && globB sc "range" && !isStar y && cE T N sc fn a y
    | _ => false)
  | .rng2 a b, _, e => (match e with
    | .Call (.Name x _) [y, z] [] _ => decide (x = "range") && globB sc "range" && !isStar y && !isStar z && cE T N sc fn a y && cE T N sc fn b z
    | _ => false)
  | .enum a, tg, e => (match e with
    | .Call (.Name x _) [y] [] _ => decide (x = "enumerate") && globB sc "enumerate" && isTupE tg && !isStar y && cE T N sc fn a y
    | _ => false)
  | .zip _ _, _, _ => false
  | .rng3 _ _ _, _, _ => false
end

def isKill : S → Bool
  | .kill _ => true
  | _ => false
mutual
def cS (T : Tbl) (N : List Str) (sc : Scope) (fn : Str → Bool) : S → Stmt → Bool
  | .asg i m, s => (match s with
    | .Assign [.Name x py] e pos => decide (N[i]? = some x) && locB sc fn x && cE T N sc fn m e && (notComp e || (match e with
      | .ListComp _ _ scope p => (match sc.names.lookup x with
        | some .local => (match sc.kind with
          | .function => (py.line == p.line) && !(scope.names.any fun (n, k) => n == x && (k == .local || k == .cell))
          | _ => false)
        | _ => false)
      | _ => false))
    | _ => false)
  | .unp is m, s => (match s with
    | .Assign [.Tuple ts _ _] e _ => (tgNames is ts N sc fn && notTup e && notComp e && cE T N sc fn m e) || (match m, ts, e, is with
      | .tup ms, [.Name x px, .Name y py], .Tuple [a, b] _ _, [i, j] => decide (N[i]? = some x) && decide (N[j]? = some y) && par2 sc [.Name x px, .Name y py] [a, b] && cEs T N sc fn ms [a, b]
      | _, _, _, _ => false)
    | _ => false)
  | .seti o i m, s => (match s with
    | .Assign [.Subscript a b _] e _ => notSlice b && notComp e && cE T N sc fn o a && cE T N sc fn i b && cE T N sc fn m e
    | _ => false)
  | .nev, _ => true
  | .ex m, s => (match s with
    | .Expr e _ => notComp e && cE T N sc fn m e
    | _ => false)
  | .ret m, s => (match s with
    | .Return (some e) _ => cE T N sc fn m e
    | _ => false)
  | .retN, s => (match s with
    | .Return none _ => true
    | _ => false)
  | .pass, s => (match s with
    | .Pass _ => true
    | _ => false)
  | .brk, s => (match s with
    | .Break _ => true
    | _ => false)
  | .cont, s => (match s with
    | .Continue _ => true
    | _ => false)
  | .ifs t a b, s => (match s with
    | .If e x y _ => cT T N sc fn t e && cSs T N sc fn a x && cSs T N sc fn b y
    | _ => false)
  | .whl t b, s => (match s with
    | .While e x [] _ => cT T N sc fn t e && cSs T N sc fn b x
    | _ => false)
  | .for_ g it b, s => (match s with
    | .For tg iter x [] _ => tgB N sc fn g tg && notSet iter && cI T N sc fn it tg iter && cSs T N sc fn b x
    | _ => false)
  | .setf _ _ _, _ => false
  | .kill _, _ => false
  | .rai _ _, _ => false
  | .tr _ _ _, _ => false
def cSs (T : Tbl) (N : List Str) (sc : Scope) (fn : Str → Bool) : Ss → List Stmt → Bool
  | .nil, ss => ss.isEmpty
  | .cons m ms, ss => if isKill m then cSs T N sc fn ms ss else (match ss with
    | s :: r => cS T N sc fn m s && cSs T N sc fn ms r
    | [] => false)
end

/-- what is known of the program's own things at level k -/
structure Link (P : Program) (w : World) (K : PySem.W.Frag) (mg : Str → Option Value) (base : Heap) (T : Tbl) (c : Ctx) (k : Nat) : Prop where
  fn : ∀ f d, T.fn.lookup f = some d → ∃ fa fd, mg f = some (.ref fa) ∧ PySem.W.keepIn K (.ref fa) = true ∧ Binds K fd (d.names.take d.np) [] ∧ FnOk P w K mg base (L2.CX P w) k fa fd (d.names.take d.np) (spF K mg (c.call f))
  glo : ∀ x p, c.glo x = some p → ∃ u v, mg x = some u ∧ RelV v u ∧ ∀ H ρ, RP K H ρ p v
  free : ∀ x ∈ biNames, mg x = none
structure Good (T : Tbl) (c : Ctx) (k : Nat) (X : Cx) (N : List Str) (sc : Scope) (fn : Str → Bool) : Prop where
  hN : X.N = N
  nd : X.N.Nodup
  hsc : X.env.scope = sc
  hfn : X.fn = fn
  calm : X.calm = true
  room : Room k X.A
  lk : Link X.prog X.w X.K X.mg X.base T c k
theorem Good.hu {T : Tbl} {c : Ctx} {k : Nat} {X : Cx} {N : List Str} {sc : Scope} {fn : Str → Bool} (G : Good T c k X N sc fn) : X.A.units + 200 < cLine := by
  have := G.room.un; omega
theorem Good.blk {T : Tbl} {c : Ctx} {k : Nat} {X : Cx} {N : List Str} {sc : Scope} {fn : Str → Bool} (G : Good T c k X N sc fn) (s : Shared) (H : Hp) (scope : Scope) (cl : List (Str × Addr)) (C : Addr) (fp : List Addr) :
    Good T c k (X.blk s H scope (compEnvC scope cl C X.env) fp) N (relS scope sc) (fun x => scope.names.lookup x == some .cell) where
  hN := G.hN
  nd := G.nd
  hsc := by rw [← G.hsc]; rfl
  hfn := rfl
  calm := G.calm
  room := G.room
  lk := G.lk
theorem glob_of {X : Cx} {sc : Scope} {x : Str} (hsc : X.env.scope = sc) (h : globB sc x = true) : Gl X x := by
  subst hsc
  have q : X.env.scope.names.lookup x = some .globalImplicit := of_decide_eq_true h
  exact q
theorem plain_of {x : Str} (h : plainName x = true) : (x == ("__debug__" : Str)) = false ∧ (x == ("__classdict__" : Str)) = false ∧ x ≠ "__name__" := by
  simp only [plainName, Bool.and_eq_true, Bool.not_eq_true'] at h
  exact ⟨h.1.1, h.1.2, fun z => by rw [z] at h; exact absurd h.2 (by decide)⟩
theorem tgNames_own {N : List Str} {sc : Scope} {fn : Str → Bool} : ∀ {is : List Nat} {es : List Expr}, tgNames is es N sc fn = true → ((es.map nameOf).zip is).map (·.2) = is
  | [], [], _ => rfl
  | [], e :: es, h => by cases e <;> cases h
  | i :: is, [], h => by cases h
  | i :: is, e :: es, h => by
    cases e <;> first | (cases h; done) | skip
    simp only [tgNames, Bool.and_eq_true] at h
    rw [List.map_cons, List.zip_cons_cons, List.map_cons, tgNames_own h.2]
theorem tg_own {N : List Str} {sc : Scope} {fn : Str → Bool} {g : Tg} {tg : Expr} (h : tgB N sc fn g tg = true) : (tgOwn g tg).map (·.2) = tgIx g := by
  cases g with
  | nm i =>
    simp only [tgB] at h
    split at h
    · rfl
    · cases h
  | tup is =>
    simp only [tgB] at h
    split at h
    · exact tgNames_own h
    · cases h
theorem tg_pg {T : Tbl} {c : Ctx} {k : Nat} {X : Cx} {N : List Str} {sc : Scope} {fn : Str → Bool} (G : Good T c k X N sc fn) {g : Tg} {tg : Expr} (h : tgB N sc fn g tg = true) : PG X tg (tgG X.K g) := by
  have hN := G.hN
  subst hN
  cases g with
  | nm i =>
    simp only [tgB] at h
    split at h
    · simp only [Bool.and_eq_true, decide_eq_true_eq] at h
      exact pg_of G.nd G.hsc G.hfn h.1 h.2
    · cases h
  | tup is =>
    simp only [tgB] at h
    split at h
    · exact pg_tgt G.calm G.nd G.hsc G.hfn h
    · cases h
theorem cEs_star {T : Tbl} {N : List Str} {sc : Scope} {fn : Str → Bool} : ∀ {ms : Exs} {es : List Expr}, cEs T N sc fn ms es = true → es.all (fun e => !isStar e) = true
  | .nil, es, h => by cases es with
    | nil => rfl
    | cons _ _ => simp [cEs] at h
  | .cons m ms, es, h => by
    cases es with
    | nil => simp [cEs] at h
    | cons e es =>
      simp only [cEs, Bool.and_eq_true] at h
      rw [List.all_cons, h.1.1, cEs_star h.2]; rfl
theorem bi_free {x : Str} {f : Bi} (h : x = (biName f : Str)) (hs : biSup f = true) : x ∈ biNames := by
  subst h
  cases f <;> first | (cases hs; done) | decide
end Wn
end
section
/-! So15: the term tells what the text does. -/
namespace Wn
open PySem PySem.Spec PyProof.Rows L2

theorem call_bi {X : Cx} {f : Bi} {T : Tbl} {c : Ctx} {k : Nat} {N : List Str} {sc : Scope} {fn : Str → Bool} {Wx : WX} {x : Str} {p pos : Pos} {e : Expr} {es : List Expr} {ms : Exs} (G : Good T c k X N sc fn) (hx : x = (biName f : Str)) (hs : biSup f = true) (hg : globB sc x = true)
    (ha : SA X (EWx X.K X.mg Wx) c (e :: es) ms) (hst : (e :: es).all (fun e => !isStar e) = true) : SE X (EWx X.K X.mg Wx) c (.Call (.Name x p) (e :: es) [] pos) (.bi f ms) := by
  have h1 : isStar e = false ∧ es.all (fun e => !isStar e) = true := by simpa using hst
  have hm := G.lk.free x (bi_free hx hs)
  have gl := glob_of G.hsc hg
  have hn : x ≠ "__name__" := by subst hx; cases f <;> decide
  have hd : (x == ("__debug__" : Str)) = false := by subst hx; cases f <;> decide
  cases f <;> first | (cases hs; done) | skip
  · exact e_biB c_len gl hm (by rw [hx]; decide +kernel) ha hn hd (star_cons h1.1) (star_any h1.2)
  · exact e_biT c_list gl hm (by rw [hx]; decide +kernel) ha hn hd (star_cons h1.1) (star_any h1.2)
  · exact e_biT c_tuple gl hm (by rw [hx]; decide +kernel) ha hn hd (star_cons h1.1) (star_any h1.2)
  · exact e_biT (c_dict G.calm) gl hm (by rw [hx]; decide +kernel) ha hn hd (star_cons h1.1) (star_any h1.2)
  · exact e_biT c_int gl hm (by rw [hx]; decide +kernel) ha hn hd (star_cons h1.1) (star_any h1.2)
  · exact e_biB (c_max G.calm) gl hm (by rw [hx]; decide +kernel) ha hn hd (star_cons h1.1) (star_any h1.2)
  · exact e_biB (c_min G.calm) gl hm (by rw [hx]; decide +kernel) ha hn hd (star_cons h1.1) (star_any h1.2)
  · exact e_biB (c_sum G.calm) gl hm (by rw [hx]; decide +kernel) ha hn hd (star_cons h1.1) (star_any h1.2)
  · exact e_biB (c_all G.calm) gl hm (by rw [hx]; decide +kernel) ha hn hd (star_cons h1.1) (star_any h1.2)
  · exact e_biB (c_any G.calm) gl hm (by rw [hx]; decide +kernel) ha hn hd (star_cons h1.1) (star_any h1.2)
theorem call_isi {X : Cx} {t : Ty} {T : Tbl} {c : Ctx} {k : Nat} {N : List Str} {sc : Scope} {fn : Str → Bool} {Wx : WX} {p pos q2 : Pos} {e : Expr} {ea : Ex} (G : Good T c k X N sc fn) (ho : isOwn t = false) (hg : globB sc "isinstance" = true) (hg2 : globB sc (tyName t) = true)
    (hst : isStar e = false) (ha : SE X (EWx X.K X.mg Wx) c e ea) : SE X (EWx X.K X.mg Wx) c (.Call (.Name "isinstance" p) [e, .Name (tyName t) q2] [] pos) (.isi ea t) := by
  refine e_isi ho ha (glob_of G.hsc hg) (G.lk.free _ (by decide)) (glob_of G.hsc hg2) (G.lk.free _ ?_) ?_ ?_ ?_ (star_cons hst)
  · cases t <;> first | (cases ho; done) | decide
  · cases t <;> first | (cases ho; done) | decide +kernel
  · cases t <;> first | (cases ho; done) | decide
  · cases t <;> first | (cases ho; done) | decide
theorem call_bm {X : Cx} {m : Bm} {W : EW} {c : Ctx} {o : Expr} {eo : Ex} {es : List Expr} {ms : Exs} {name : Str} {apos cpos : Pos} (hm : name = (bmName m : Str)) (hs : bmSup m = true) (hb : baseOk o = true) (hl : (apos.endLine == cpos.line) = true) (h30 : es.length < 30)
    (ho : SE X W c o eo) (ha : SA X W c es ms) (hn : es = [] → ms = .nil) (hst : es.all (fun e => !isStar e) = true) : SE X W c (.Call (.Attribute o name apos) es [] cpos) (.bm m eo ms) := by
  have hk : m ≠ .get ∧ m ≠ .dpop := by cases m <;> first | (cases hs; done) | exact ⟨by decide, by decide⟩
  cases es with
  | nil =>
    rw [hn rfl]
    cases m <;> first | (cases hs; done) | skip
    · exact e_bm0 hk (hm ▸ PySem.F.slot_list_append) PySem.F.type_list_append m_append ho (base_ok hb) hl
    · exact e_bm0 hk (hm ▸ PySem.F.slot_list_extend) PySem.F.type_list_extend m_extend ho (base_ok hb) hl
    · exact e_bm0 hk (hm ▸ PySem.F.slot_list_pop) PySem.F.type_list_pop m_pop ho (base_ok hb) hl
    · exact e_bm0 hk (hm ▸ PySem.F.slot_list_clear) PySem.F.type_list_clear m_clear ho (base_ok hb) hl
  | cons e es =>
    have h1 : isStar e = false ∧ es.all (fun e => !isStar e) = true := by simpa using hst
    cases m <;> first | (cases hs; done) | skip
    · exact e_bm hk (hm ▸ PySem.F.slot_list_append) PySem.F.type_list_append m_append ho ha (base_ok hb) (star_few hst h30) hl (star_cons h1.1) (star_any h1.2)
    · exact e_bm hk (hm ▸ PySem.F.slot_list_extend) PySem.F.type_list_extend m_extend ho ha (base_ok hb) (star_few hst h30) hl (star_cons h1.1) (star_any h1.2)
    · exact e_bm hk (hm ▸ PySem.F.slot_list_pop) PySem.F.type_list_pop m_pop ho ha (base_ok hb) (star_few hst h30) hl (star_cons h1.1) (star_any h1.2)
    · exact e_bm hk (hm ▸ PySem.F.slot_list_clear) PySem.F.type_list_clear m_clear ho ha (base_ok hb) (star_few hst h30) hl (star_cons h1.1) (star_any h1.2)
theorem sole_no {t e : Expr} {l : Nat} {env : PySem.Env} (h : notComp e = true) : swapsWithSole [t] e l env = pure false := swap_no h
theorem star1 {e : Expr} {env : PySem.Env} (h : isStar e = false) : starEach [e] env = [(false, eval e env)] := star_cons h
theorem star2 {e d : Expr} {env : PySem.Env} (h : isStar e = false) (h' : isStar d = false) : starEach [e, d] env = [(false, eval e env), (false, eval d env)] := by rw [star_cons h, star1 h']
/-- a call of an own def -/
theorem call_own {X : Cx} {T : Tbl} {c : Ctx} {k : Nat} {N : List Str} {sc : Scope} {fn : Str → Bool} {Wx : WX} (G : Good T c k X N sc fn) (tk : Takes X Wx) {f : Str} {p pos : Pos} {es : List Expr} {ms : Exs} (hg : globB sc f = true) (hp : plainName f = true) (hf : (T.fn.lookup f).isSome = true)
    (ha : SA X (EWx X.K X.mg Wx) c es ms) (hn : es = [] → ms = .nil) (hst : es.all (fun e => !isStar e) = true) : SE X (EWx X.K X.mg Wx) c (.Call (.Name f p) es [] pos) (.call f ms) := by
  obtain ⟨d, hd⟩ := Option.isSome_iff_exists.mp hf
  obtain ⟨fa, fd, h1, h2, h3, h4⟩ := G.lk.fn f d hd
  cases es with
  | nil => rw [hn rfl]; exact e_call0 h4 G.room (glob_of G.hsc hg) h1 h2 h3 tk (plain_of hp).1
  | cons e es => exact e_call h4 G.room (glob_of G.hsc hg) h1 h2 h3 tk ha (plain_of hp).1 hst
theorem cEs_nil {T : Tbl} {N : List Str} {sc : Scope} {fn : Str → Bool} {ms : Exs} {es : List Expr} (h : cEs T N sc fn ms es = true) (he : es = []) : ms = .nil := by
  subst he
  cases ms with
  | nil => rfl
  | cons _ _ => simp [cEs] at h

def boolM : Ex → Bool
  | .and_ _ _ => true
  | .or_ _ _ => true
  | _ => false
mutual
theorem sE {T : Tbl} {c : Ctx} {k : Nat} : ∀ (m : Ex) {X : Cx} {N : List Str} {sc : Scope} {fn : Str → Bool} {Wx : WX} (G : Good T c k X N sc fn) (tk : Takes X Wx) {e : Expr}, cE T N sc fn m e = true → SE X (EWx X.K X.mg Wx) c e m
  | .var i, X, N, sc, fn, Wx, G, tk, e, h => by
    simp only [cE] at h
    split at h
    · simp only [Bool.and_eq_true, decide_eq_true_eq] at h
      obtain ⟨⟨h1, h2⟩, h3⟩ := h
      obtain ⟨p1, p2, _⟩ := plain_of h3
      exact e_var (by rw [G.hN]; exact h1) (G.hsc ▸ vis_of h2) p1 p2 c
    · cases h
  | .int i, X, N, sc, fn, Wx, G, tk, e, h => by
    simp only [cE] at h
    split at h
    · cases of_decide_eq_true h; exact e_int c
    · cases h
  | .str i, X, N, sc, fn, Wx, G, tk, e, h => by
    simp only [cE] at h
    split at h
    · cases of_decide_eq_true h; exact e_str c
    · cases h
  | .bl i, X, N, sc, fn, Wx, G, tk, e, h => by
    simp only [cE] at h
    split at h
    · cases of_decide_eq_true h; exact e_bl c
    · cases h
  | .non, X, N, sc, fn, Wx, G, tk, e, h => by
    simp only [cE] at h
    split at h
    · exact e_non c
    · cases h
  | .glo x, X, N, sc, fn, Wx, G, tk, e, h => by
    simp only [cE] at h
    split at h
    · rename_i y pos
      simp only [Bool.and_eq_true, decide_eq_true_eq] at h
      obtain ⟨⟨h1, h2⟩, h3⟩ := h
      subst h1
      cases hg : c.glo y with
      | none =>
        refine ⟨fun pins s σ H Q I h => ?_⟩
        obtain ⟨ρ, E, M, er, sr, h⟩ := h
        simp only [evE, hg] at h
        exact h.elim
      | some p =>
        obtain ⟨u, v, q1, q2, q3⟩ := G.lk.glo _ p hg
        exact e_glo (glob_of G.hsc h2) q1 q2 hg q3 (plain_of h3).1
    · cases h
  | .bin o a b, X, N, sc, fn, Wx, G, tk, e, h => by
    simp only [cE] at h
    split at h
    · simp only [Bool.and_eq_true, decide_eq_true_eq] at h
      obtain ⟨⟨h1, h2⟩, h3⟩ := h
      subst h1
      exact e_bin (op_all o) (fun M p q => noErr_bin M o p q) (sE a G tk h2) (sE b G tk h3)
    · cases h
  | .neg a, X, N, sc, fn, Wx, G, tk, e, h => by
    simp only [cE] at h
    split at h
    · exact e_neg (sE a G tk h)
    · cases h
  | .cmp o a b, X, N, sc, fn, Wx, G, tk, e, h => by
    simp only [cE] at h
    split at h
    · simp only [Bool.and_eq_true, decide_eq_true_eq] at h
      obtain ⟨⟨⟨h1, h2⟩, h3⟩, h4⟩ := h
      subst h1
      exact e_cmp (cmp_all G.hu o) (sE a G tk h3) (sE b G tk h4) (marks_no h2)
    · cases h
  | .chain o p a b d, X, N, sc, fn, Wx, G, tk, e, h => by
    simp only [cE] at h
    split at h
    · simp only [Bool.and_eq_true, decide_eq_true_eq] at h
      obtain ⟨⟨⟨⟨⟨h1, h1'⟩, h2⟩, h3⟩, h4⟩, h5⟩ := h
      subst h1 h1'
      exact e_chain (cmp_all G.hu o) (cmp_all G.hu p) (sE a G tk h3) (sE b G tk h4) (sE d G tk h5) (marks_no h2)
    · cases h
  | .and_ a b, X, N, sc, fn, Wx, G, tk, e, h => by
    simp only [cE] at h
    split at h
    · simp only [Bool.and_eq_true] at h
      obtain ⟨h1, h2⟩ := h
      split at h2
      · exact e_and (sE a G tk h1) (e_one (sE b G tk h2))
      · exact e_and (sE a G tk h1) (sE b G tk h2)
    · cases h
  | .or_ a b, X, N, sc, fn, Wx, G, tk, e, h => by
    simp only [cE] at h
    split at h
    · simp only [Bool.and_eq_true] at h
      obtain ⟨h1, h2⟩ := h
      split at h2
      · exact e_or (sE a G tk h1) (e_one (sE b G tk h2))
      · exact e_or (sE a G tk h1) (sE b G tk h2)
    · cases h
  | .not_ a, X, N, sc, fn, Wx, G, tk, e, h => by
    simp only [cE] at h
    split at h
    · exact e_not (sE a G tk h)
    · cases h
  | .ite t a b, X, N, sc, fn, Wx, G, tk, e, h => by
    simp only [cE] at h
    split at h
    · simp only [Bool.and_eq_true] at h
      exact e_ite (sT t G tk h.1.1).1 (sE a G tk h.1.2) (sE b G tk h.2)
    · cases h
  | .tup es, X, N, sc, fn, Wx, G, tk, e, h => by
    simp only [cE] at h
    split at h
    · exact e_tup (sEs es G tk h)
    · cases h
  | .lst es, X, N, sc, fn, Wx, G, tk, e, h => by
    simp only [cE] at h
    split at h
    · exact e_lst (sEs es G tk h)
    · cases h
  | .dic es, X, N, sc, fn, Wx, G, tk, e, h => by
    simp only [cE] at h
    split at h
    · rename_i ks vs pos
      simp only [Bool.and_eq_true, decide_eq_true_eq] at h
      obtain ⟨h1, h2⟩ := h
      cases ks with
      | nil =>
        cases es with
        | nil =>
          cases vs with
          | nil => exact e_dic0
          | cons _ _ => simp [cKV] at h1
        | cons _ _ => simp [cKV] at h1
      | cons k0 kr =>
        obtain ⟨q1, q2, q3, q4⟩ := sKV es G tk (pos := pos) h1
        exact e_dic q1 q2 q3 q4 (fun z => nomatch z) h2
    · cases h
  | .idx a b, X, N, sc, fn, Wx, G, tk, e, h => by
    simp only [cE] at h
    split at h
    · simp only [Bool.and_eq_true] at h
      exact e_idx G.hu (sE a G tk h.1.2) (sE b G tk h.2) (plain_ix h.1.1)
    · cases h
  | .slice a lo hi, X, N, sc, fn, Wx, G, tk, e, h => by
    simp only [cE] at h
    split at h
    · simp only [Bool.and_eq_true] at h
      exact e_slice (sE a G tk h.1.1) (sO lo G tk h.1.2) (sO hi G tk h.2)
    · cases h
  | .call f es, X, N, sc, fn, Wx, G, tk, e, h => by
    simp only [cE] at h
    split at h
    · simp only [Bool.and_eq_true, decide_eq_true_eq] at h
      obtain ⟨⟨⟨⟨h1, h2⟩, h3⟩, h4⟩, h5⟩ := h
      subst h1
      exact call_own G tk h2 h3 h4 (sEs es G tk h5) (cEs_nil h5) (cEs_star h5)
    · cases h
  | .bi f es, X, N, sc, fn, Wx, G, tk, e, h => by
    simp only [cE] at h
    split at h
    · rename_i x p args pos
      rcases Bool.or_eq_true_iff.mp h with h | h
      · simp only [Bool.and_eq_true, decide_eq_true_eq] at h
        obtain ⟨⟨⟨⟨h1, h2⟩, h3⟩, h4⟩, h5⟩ := h
        cases args with
        | nil => cases h5
        | cons a0 ar => exact call_bi G h1 h2 h3 (sEs es G tk h4) (cEs_star h4)
      · simp only [Bool.and_eq_true, decide_eq_true_eq] at h
        obtain ⟨⟨⟨⟨h1, h2⟩, h3⟩, h4⟩, h5⟩ := h
        split at h5
        · rename_i y p2 args2 pos2
          simp only [Bool.and_eq_true, decide_eq_true_eq] at h5
          obtain ⟨⟨h6, h7⟩, h8⟩ := h5
          subst h1 h2 h6
          match args2, h7 with
          | [a0], _ =>
            cases es with
            | nil => simp [cEs] at h8
            | cons m ms =>
              simp only [cEs, Bool.and_eq_true, Bool.not_eq_true'] at h8
              cases ms with
              | cons _ _ => simp [cEs] at h8
              | nil => exact e_lenset G.calm (glob_of G.hsc h3) (G.lk.free _ (by decide)) (glob_of G.hsc h4) (G.lk.free _ (by decide)) (sE m G tk h8.1.2) h8.1.1
        · cases h5
    · cases h
  | .bm m o es, X, N, sc, fn, Wx, G, tk, e, h => by
    simp only [cE] at h
    split at h
    · rename_i x name apos args cpos
      simp only [Bool.and_eq_true, decide_eq_true_eq] at h
      obtain ⟨⟨⟨⟨⟨⟨h1, h2⟩, h3⟩, h4⟩, h5⟩, h6⟩, h7⟩ := h
      rcases Bool.or_eq_true_iff.mp h2 with h2 | h2
      · exact call_bm h1 h2 h3 h4 h5 (sE o G tk h6) (sEs es G tk h7) (cEs_nil h7) (cEs_star h7)
      · simp only [Bool.and_eq_true, decide_eq_true_eq] at h2
        obtain ⟨h2, h8⟩ := h2
        subst h2
        subst h1
        have hst := cEs_star h7
        match args, h8 with
        | [a0, a1], _ =>
          cases es with
          | nil => simp [cEs] at h7
          | cons m0 ms =>
            simp only [cEs, Bool.and_eq_true, Bool.not_eq_true'] at h7
            cases ms with
            | nil => simp [cEs] at h7
            | cons m1 ms =>
              simp only [cEs, Bool.and_eq_true, Bool.not_eq_true'] at h7
              cases ms with
              | cons _ _ => simp [cEs] at h7
              | nil =>
                have s0 := h7.1.1
                have s1 := h7.2.1.1
                exact e_get2 G.hu (sE o G tk h6) (sE m0 G tk h7.1.2) (sE m1 G tk h7.2.1.2) ⟨base_ok h3, star_few hst h5, h4, by rw [star2 s0 s1]; rfl⟩
    · cases h
  | .isi a t, X, N, sc, fn, Wx, G, tk, e, h => by
    simp only [cE] at h
    split at h
    · simp only [Bool.and_eq_true, decide_eq_true_eq, Bool.not_eq_true'] at h
      obtain ⟨⟨⟨⟨⟨⟨h1, h2⟩, h3⟩, h4⟩, h5⟩, h6⟩, h7⟩ := h
      subst h1 h2
      exact call_isi G h3 h4 h5 h6 (sE a G tk h7)
    · cases h
  | .lc elt g it cond, X, N, sc, fn, Wx, G, tk, e, h => by
    simp only [cE] at h
    split at h
    · rename_i el tg iter ifs as scope pos
      simp only [Bool.and_eq_true, decide_eq_true_eq] at h
      obtain ⟨⟨⟨⟨⟨⟨h1, h2⟩, h3⟩, h4⟩, h5⟩, h6⟩, h7⟩ := h
      subst h1
      refine e_lc (W' := EWx X.K X.mg fun _ _ _ _ => False) G.calm G.nd (sI it G tk h5) ?_ (tg_own h4) (fun s H C cl fp => tg_pg (G.blk s H scope cl C fp) h4) (fun s H C cl fp => sC cond (G.blk s H scope cl C fp) takes0 h7) (fun s H C cl fp => sE elt (G.blk s H scope cl C fp) takes0 h6) (folded_no h3)
      rw [G.hN, G.hsc]
      exact blkOk_by h2
    · cases h
  | .rev m, X, N, sc, fn, Wx, G, tk, e, h => by
    simp only [cE] at h
    split at h
    · simp only [Bool.and_eq_true, decide_eq_true_eq] at h
      obtain ⟨h1, h2⟩ := h
      subst h1
      exact e_rev (sE m G tk h2)
    · cases h
  | .fld _ _, X, N, sc, fn, Wx, G, tk, e, h => by cases h
  | .mk _ _, X, N, sc, fn, Wx, G, tk, e, h => by cases h
  | .meth _ _ _, X, N, sc, fn, Wx, G, tk, e, h => by cases h
  | .mov m, X, N, sc, fn, Wx, G, tk, e, h => by
    have q : SE X (EWx X.K X.mg Wx) c e m := sE m G tk (by simp only [cE, Bool.and_eq_true] at h; exact h.2)
    have e1 : evE c (.mov m) = evE c m := by funext E M; simp only [evE]
    unfold SE at q ⊢
    rw [e1]; exact q
theorem sT {T : Tbl} {c : Ctx} {k : Nat} : ∀ (m : Ex) {X : Cx} {N : List Str} {sc : Scope} {fn : Str → Bool} {Wx : WX} (G : Good T c k X N sc fn) (tk : Takes X Wx) {e : Expr}, cT T N sc fn m e = true → ST X (EWx X.K X.mg Wx) c e m ∧ (boolM m = true → SW X (EWx X.K X.mg Wx) c e m)
  | .and_ a b, X, N, sc, fn, Wx, G, tk, e, h => by
    have w : SW X (EWx X.K X.mg Wx) c e (.and_ a b) := by
      simp only [cT] at h
      split at h
      · simp only [Bool.and_eq_true] at h
        obtain ⟨h1, h2⟩ := h
        split at h2
        · exact w_and (sT a G tk h1).1 (w_and1 (sT b G tk h2).1)
        · split at h2
          · exact w_and (sT a G tk h1).1 ((sT _ G tk h2).2 rfl)
          · cases h2
      · cases h
    exact ⟨w.pt, fun _ => w⟩
  | .or_ a b, X, N, sc, fn, Wx, G, tk, e, h => by
    have w : SW X (EWx X.K X.mg Wx) c e (.or_ a b) := by
      simp only [cT] at h
      split at h
      · simp only [Bool.and_eq_true] at h
        obtain ⟨h1, h2⟩ := h
        split at h2
        · exact w_or (sT a G tk h1).1 (w_or1 (sT b G tk h2).1)
        · split at h2
          · exact w_or (sT a G tk h1).1 ((sT _ G tk h2).2 rfl)
          · cases h2
      · cases h
    exact ⟨w.pt, fun _ => w⟩
  | .not_ a, X, N, sc, fn, Wx, G, tk, e, h => by
    simp only [cT] at h
    split at h
    · exact ⟨t_not (sT a G tk h).1, fun z => nomatch z⟩
    · cases h
  | .cmp o a b, X, N, sc, fn, Wx, G, tk, e, h => by
    simp only [cT] at h
    split at h
    · simp only [Bool.and_eq_true, decide_eq_true_eq] at h
      obtain ⟨⟨⟨h1, h2⟩, h3⟩, h4⟩ := h
      subst h1
      exact ⟨t_cmp (cmp_all G.hu o) (sE a G tk h3) (sE b G tk h4) (marks_no h2), fun z => nomatch z⟩
    · cases h
  | .chain o p a b d, X, N, sc, fn, Wx, G, tk, e, h => by
    simp only [cT] at h
    split at h
    · simp only [Bool.and_eq_true, decide_eq_true_eq] at h
      obtain ⟨⟨⟨⟨⟨h1, h1'⟩, h2⟩, h3⟩, h4⟩, h5⟩ := h
      subst h1 h1'
      exact ⟨t_chain (cmp_all G.hu o) (cmp_all G.hu p) (sE a G tk h3) (sE b G tk h4) (sE d G tk h5) (marks_no h2), fun z => nomatch z⟩
    · cases h
  | .var i, X, N, sc, fn, Wx, G, tk, e, h => by
    simp only [cT] at h
    split at h
    · simp only [Bool.and_eq_true, decide_eq_true_eq] at h
      obtain ⟨⟨h1, h2⟩, h3⟩ := h
      obtain ⟨p1, p2, _⟩ := plain_of h3
      refine ⟨t_truth (e_var (by rw [G.hN]; exact h1) (G.hsc ▸ vis_of h2) p1 p2 c) (fun w => truth_of rfl w) (fun E M => ?_), fun z => nomatch z⟩
      simp only [evT, evE]
      split <;> rfl
    · cases h
  | .call f es, X, N, sc, fn, Wx, G, tk, e, h => by
    simp only [cT] at h
    split at h
    · simp only [Bool.and_eq_true, decide_eq_true_eq] at h
      obtain ⟨⟨⟨⟨h1, h2⟩, h3⟩, h4⟩, h5⟩ := h
      subst h1
      refine ⟨t_truth (call_own G tk h2 h3 h4 (sEs es G tk h5) (cEs_nil h5) (cEs_star h5)) (fun w => truth_of rfl w) (fun E M => ?_), fun z => nomatch z⟩
      simp only [evT, evE, Res.bind_assoc]
    · cases h
  | .bi f es, X, N, sc, fn, Wx, G, tk, e, h => by
    simp only [cT] at h
    split at h
    · rename_i x p args pos
      simp only [Bool.and_eq_true, decide_eq_true_eq] at h
      obtain ⟨⟨⟨⟨h1, h2⟩, h3⟩, h4⟩, h5⟩ := h
      cases args with
      | nil => cases h5
      | cons a0 ar =>
        refine ⟨t_truth (call_bi G h1 h2 h3 (sEs es G tk h4) (cEs_star h4)) (fun w => truth_of rfl w) (fun E M => ?_), fun z => nomatch z⟩
        simp only [evT, evE, Res.bind_assoc]
    · cases h
  | .isi a t, X, N, sc, fn, Wx, G, tk, e, h => by
    simp only [cT] at h
    split at h
    · simp only [Bool.and_eq_true, decide_eq_true_eq, Bool.not_eq_true'] at h
      obtain ⟨⟨⟨⟨⟨⟨h1, h2⟩, h3⟩, h4⟩, h5⟩, h6⟩, h7⟩ := h
      subst h1 h2
      refine ⟨t_truth (call_isi G h3 h4 h5 h6 (sE a G tk h7)) (fun w => truth_of rfl w) (fun E M => ?_), fun z => nomatch z⟩
      simp only [evT, evE, Res.bind_assoc]
      congr 1
      funext x M1
      cases isTyC c M1 x t <;> rfl
    · cases h
  | .int _, X, N, sc, fn, Wx, G, tk, e, h => by cases h
  | .str _, X, N, sc, fn, Wx, G, tk, e, h => by cases h
  | .bl _, X, N, sc, fn, Wx, G, tk, e, h => by cases h
  | .non, X, N, sc, fn, Wx, G, tk, e, h => by cases h
  | .glo _, X, N, sc, fn, Wx, G, tk, e, h => by cases h
  | .bin _ _ _, X, N, sc, fn, Wx, G, tk, e, h => by cases h
  | .neg _, X, N, sc, fn, Wx, G, tk, e, h => by cases h
  | .ite _ _ _, X, N, sc, fn, Wx, G, tk, e, h => by cases h
  | .tup _, X, N, sc, fn, Wx, G, tk, e, h => by cases h
  | .lst _, X, N, sc, fn, Wx, G, tk, e, h => by cases h
  | .dic _, X, N, sc, fn, Wx, G, tk, e, h => by cases h
  | .idx a b, X, N, sc, fn, Wx, G, tk, e, h => by
    simp only [cT] at h
    split at h
    · simp only [Bool.and_eq_true] at h
      exact ⟨t_truth (e_idx G.hu (sE a G tk h.1.2) (sE b G tk h.2) (plain_ix h.1.1)) (fun w => truth_of rfl w) (fun E M => by simp only [evT, evE, Res.bind_assoc]), fun z => nomatch z⟩
    · cases h
  | .slice _ _ _, X, N, sc, fn, Wx, G, tk, e, h => by cases h
  | .rev _, X, N, sc, fn, Wx, G, tk, e, h => by cases h
  | .fld _ _, X, N, sc, fn, Wx, G, tk, e, h => by cases h
  | .mk _ _, X, N, sc, fn, Wx, G, tk, e, h => by cases h
  | .meth _ _ _, X, N, sc, fn, Wx, G, tk, e, h => by cases h
  | .bm _ _ _, X, N, sc, fn, Wx, G, tk, e, h => by cases h
  | .lc _ _ _ _, X, N, sc, fn, Wx, G, tk, e, h => by cases h
  | .mov _, X, N, sc, fn, Wx, G, tk, e, h => by cases h
theorem sEs {T : Tbl} {c : Ctx} {k : Nat} : ∀ (ms : Exs) {X : Cx} {N : List Str} {sc : Scope} {fn : Str → Bool} {Wx : WX} (G : Good T c k X N sc fn) (tk : Takes X Wx) {es : List Expr}, cEs T N sc fn ms es = true → SA X (EWx X.K X.mg Wx) c es ms
  | .nil, X, N, sc, fn, Wx, G, tk, es, h => by
    cases es with
    | nil => exact a_nil
    | cons _ _ => simp [cEs] at h
  | .cons m ms, X, N, sc, fn, Wx, G, tk, es, h => by
    cases es with
    | nil => simp [cEs] at h
    | cons e es =>
      simp only [cEs, Bool.and_eq_true, Bool.not_eq_true'] at h
      exact a_cons (sE m G tk h.1.2) (sEs ms G tk h.2) (star_cons h.1.1)
theorem sKV {T : Tbl} {c : Ctx} {k : Nat} : ∀ (ms : Exs) {X : Cx} {N : List Str} {sc : Scope} {fn : Str → Bool} {Wx : WX} (G : Good T c k X N sc fn) (tk : Takes X Wx) {pos : Pos} {ks : List (Option Expr)} {vs : List Expr}, cKV T N sc fn ms ks vs = true →
    PPs X pos ks vs (trsOf X.K X.mg (EWx X.K X.mg Wx) c ms) ∧ evenEs ms = true ∧ ks.all (·.isSome) = true ∧ ks.length = vs.length
  | .nil, X, N, sc, fn, Wx, G, tk, pos, ks, vs, h => by
    cases ks with
    | nil =>
      cases vs with
      | nil => exact ⟨pps_nil, rfl, rfl, rfl⟩
      | cons _ _ => simp [cKV] at h
    | cons _ _ => simp [cKV] at h
  | .cons m .nil, X, N, sc, fn, Wx, G, tk, pos, ks, vs, h => by
    simp only [cKV] at h
    split at h
    · simp [cV] at h
    · cases h
  | .cons m (.cons m2 ms), X, N, sc, fn, Wx, G, tk, pos, ks, vs, h => by
    simp only [cKV] at h
    split at h
    · simp only [cV, Bool.and_eq_true] at h
      obtain ⟨h1, h2, h3⟩ := h
      obtain ⟨q1, q2, q3, q4⟩ := sKV ms G tk (pos := pos) h3
      exact ⟨pps_cons (sE m G tk h1) (sE m2 G tk h2) q1, q2, by simpa using q3, by rw [List.length_cons, List.length_cons, q4]⟩
    · cases h
theorem sO {T : Tbl} {c : Ctx} {k : Nat} : ∀ (m : Ox) {X : Cx} {N : List Str} {sc : Scope} {fn : Str → Bool} {Wx : WX} (G : Good T c k X N sc fn) (tk : Takes X Wx) {e : Option Expr}, cO T N sc fn m e = true → SO X (EWx X.K X.mg Wx) c e m
  | .none, X, N, sc, fn, Wx, G, tk, e, h => by
    cases e with
    | none => exact o_none
    | some _ => simp [cO] at h
  | .some m, X, N, sc, fn, Wx, G, tk, e, h => by
    cases e with
    | none => simp [cO] at h
    | some e => simp only [cO] at h; exact o_some (sE m G tk h)
theorem sC {T : Tbl} {c : Ctx} {k : Nat} : ∀ (m : Ox) {X : Cx} {N : List Str} {sc : Scope} {fn : Str → Bool} {Wx : WX} (G : Good T c k X N sc fn) (tk : Takes X Wx) {es : List Expr}, cC T N sc fn m es = true → PTs X es (tT X.K X.mg (EWx X.K X.mg Wx) (evC c m))
  | .none, X, N, sc, fn, Wx, G, tk, es, h => by
    cases es with
    | nil => exact ⟨fun pins s σ H Q I ⟨ρ, E, M, er, sr, q⟩ => pts_nil.run pins s σ H Q I (post_ok q sr)⟩
    | cons _ _ => simp [cC] at h
  | .some m, X, N, sc, fn, Wx, G, tk, es, h => by
    simp only [cC] at h
    split at h
    · exact pts_one (sT m G tk h).1
    · cases h
theorem sI {T : Tbl} {c : Ctx} {k : Nat} : ∀ (m : Ix) {X : Cx} {N : List Str} {sc : Scope} {fn : Str → Bool} {Wx : WX} (G : Good T c k X N sc fn) (tk : Takes X Wx) {tg e : Expr}, cI T N sc fn m tg e = true → SI X (EWx X.K X.mg Wx) c tg e m
  | .of m, X, N, sc, fn, Wx, G, tk, tg, e, h => by
    simp only [cI] at h
    exact i_of (sE m G tk h)
  | .rng1 a, X, N, sc, fn, Wx, G, tk, tg, e, h => by
    simp only [cI] at h
    split at h
    · simp only [Bool.and_eq_true, decide_eq_true_eq, Bool.not_eq_true'] at h
      obtain ⟨⟨⟨h1, h2⟩, h3⟩, h4⟩ := h
      subst h1
      exact i_rng1 (glob_of G.hsc h2) (G.lk.free _ (by decide)) (sE a G tk h4) (star1 h3)
    · cases h
  | .rng2 a b, X, N, sc, fn, Wx, G, tk, tg, e, h => by
    simp only [cI] at h
    split at h
    · simp only [Bool.and_eq_true, decide_eq_true_eq, Bool.not_eq_true'] at h
      obtain ⟨⟨⟨⟨⟨h1, h2⟩, h3⟩, h3'⟩, h4⟩, h5⟩ := h
      subst h1
      exact i_rng2 (glob_of G.hsc h2) (G.lk.free _ (by decide)) (sE a G tk h4) (sE b G tk h5) (star2 h3 h3') (star1 h3')
    · cases h
  | .enum a, X, N, sc, fn, Wx, G, tk, tg, e, h => by
    simp only [cI] at h
    split at h
    · simp only [Bool.and_eq_true, decide_eq_true_eq, Bool.not_eq_true'] at h
      obtain ⟨⟨⟨⟨h1, h2⟩, h2'⟩, h3⟩, h4⟩ := h
      subst h1
      cases tg <;> first | (cases h2'; done) | skip
      exact i_enum (glob_of G.hsc h2) (G.lk.free _ (by decide)) (sE a G tk h4) (star1 h3)
    · cases h
  | .zip _ _, X, N, sc, fn, Wx, G, tk, tg, e, h => by cases h
  | .rng3 _ _ _, X, N, sc, fn, Wx, G, tk, tg, e, h => by cases h
end

/-! ### statements -/
theorem ew_flat {K : PySem.W.Frag} {mg : Str → Option Value} {E : XK} : (EWx K mg fun cls d _ H => E cls d H).flat := fun _ _ _ _ _ _ h => h
mutual
theorem sS {T : Tbl} {c : Ctx} {k : Nat} : ∀ (m : S) {X : Cx} {N : List Str} {sc : Scope} {fn : Str → Bool} {E : XK} (G : Good T c k X N sc fn) (tk : Takes X (fun cls d _ H => E cls d H)) (hp : PassesOwn (model X.prog X.w) X.A X.env X.xe) {s : Stmt}, cS T N sc fn m s = true → SS X (EWx X.K X.mg fun cls d _ H => E cls d H) c s m
  | .asg i m, X, N, sc, fn, E, G, tk, hp, s, h => by
    simp only [cS] at h
    split at h
    · rename_i x py e pos
      simp only [Bool.and_eq_true, decide_eq_true_eq] at h
      obtain ⟨⟨⟨h1, h2⟩, h3⟩, h4⟩ := h
      have hN : X.N[i]? = some x := by rw [G.hN]; exact h1
      rcases Bool.or_eq_true_iff.mp h4 with h4 | h4
      · have l : Loc X.env.scope x ∧ (X.fn x = true ∨ X.env.scope.names.lookup x = some .local) := by
          rw [G.hsc, G.hfn]
          unfold locB at h2
          split at h2
          · exact ⟨Or.inl ‹_›, Or.inr ‹_›⟩
          · exact ⟨Or.inr ‹_›, Or.inl h2⟩
          · cases h2
        exact s_asg G.nd hN l.1 (sE m G tk h3) (swap_no h4) l.2
      · split at h4
        · rename_i el gens scope p
          split at h4
          · rename_i hl
            split at h4
            · rename_i hk
              simp only [Bool.and_eq_true, Bool.not_eq_true'] at h4
              cases m <;> first | (simp [cE, notComp] at h3; done) | skip
              rename_i elt g it cond
              simp only [cE] at h3
              split at h3
              · rename_i tg iter ifs as scope' pos'  hh
                cases hh
                simp only [Bool.and_eq_true, decide_eq_true_eq] at h3
                obtain ⟨⟨⟨⟨⟨⟨h1', h2'⟩, h3'⟩, h4'⟩, h5'⟩, h6'⟩, h7'⟩ := h3
                subst h1'
                refine s_asgLc (W' := EWx X.K X.mg fun _ _ _ _ => False) G.calm G.nd hN (by rw [G.hsc]; exact hl) ?_ (sI it G tk h5') ?_ (tg_own h4') (fun s H C cl fp => tg_pg (G.blk s H _ cl C fp) h4') (fun s H C cl fp => sC cond (G.blk s H _ cl C fp) takes0 h7') (fun s H C cl fp => sE elt (G.blk s H _ cl C fp) takes0 h6') (folded_no h3')
                · exact sw_true (by rw [G.hsc]; exact hk) (by rw [G.hsc]; exact hl) h4.1 h4.2
                · rw [G.hN, G.hsc]
                  exact blkOk_by h2'
              · cases h3
            · cases h4
          · cases h4
        · cases h4
    · cases h
  | .unp is m, X, N, sc, fn, E, G, tk, hp, s, h => by
    simp only [cS] at h
    split at h
    · rcases Bool.or_eq_true_iff.mp h with h | h
      · simp only [Bool.and_eq_true] at h
        obtain ⟨⟨⟨h1, h2⟩, h3⟩, h4⟩ := h
        have hN := G.hN
        subst hN
        exact s_unp (sE m G tk h4) (pg_tgt G.calm G.nd G.hsc G.hfn h1) (sole_no h3) (stores_no h2) rfl
      · split at h
        · simp only [Bool.and_eq_true, decide_eq_true_eq] at h
          obtain ⟨⟨⟨h1, h2⟩, h3⟩, h4⟩ := h
          have hN := G.hN
          subst hN
          exact s_par2 G.calm G.nd h1 h2 (G.hsc ▸ h3) (sEs _ G tk h4)
        · cases h
    · cases h
  | .seti o i m, X, N, sc, fn, E, G, tk, hp, s, h => by
    simp only [cS] at h
    split at h
    · simp only [Bool.and_eq_true] at h
      obtain ⟨⟨⟨⟨h1, h2⟩, h3⟩, h4⟩, h5⟩ := h
      exact s_seti G.hu (sE m G tk h5) (sE o G tk h3) (sE i G tk h4) (fun v => asg_sub h1 v) (sole_no h2) stores_sub rfl
    · cases h
  | .nev, X, N, sc, fn, E, G, tk, hp, s, h => ps_imp ps_never fun D σ H ⟨_, _, _, _, _, h⟩ => h
  | .ex m, X, N, sc, fn, E, G, tk, hp, s, h => by
    simp only [cS] at h
    split at h
    · simp only [Bool.and_eq_true] at h
      exact s_ex (sE m G tk h.2) (swap_no h.1)
    · cases h
  | .ret m, X, N, sc, fn, E, G, tk, hp, s, h => by
    simp only [cS] at h
    split at h
    · exact s_ret (sE m G tk h)
    · cases h
  | .retN, X, N, sc, fn, E, G, tk, hp, s, h => by
    simp only [cS] at h
    split at h
    · exact s_retN
    · cases h
  | .pass, X, N, sc, fn, E, G, tk, hp, s, h => by
    simp only [cS] at h
    split at h
    · exact s_pass
    · cases h
  | .brk, X, N, sc, fn, E, G, tk, hp, s, h => by
    simp only [cS] at h
    split at h
    · exact s_brk
    · cases h
  | .cont, X, N, sc, fn, E, G, tk, hp, s, h => by
    simp only [cS] at h
    split at h
    · exact s_cont
    · cases h
  | .ifs t a b, X, N, sc, fn, E, G, tk, hp, s, h => by
    simp only [cS] at h
    split at h
    · simp only [Bool.and_eq_true] at h
      exact s_ifs (sT t G tk h.1.1).1 (sSs a G tk hp h.1.2) (sSs b G tk hp h.2)
    · cases h
  | .whl t b, X, N, sc, fn, E, G, tk, hp, s, h => by
    simp only [cS] at h
    split at h
    · simp only [Bool.and_eq_true] at h
      exact s_whl ew_flat hp (sT t G tk h.1).1 (sSs b G tk hp h.2)
    · cases h
  | .for_ g it b, X, N, sc, fn, E, G, tk, hp, s, h => by
    simp only [cS] at h
    split at h
    · simp only [Bool.and_eq_true] at h
      obtain ⟨⟨⟨h1, h2⟩, h3⟩, h4⟩ := h
      exact s_for ew_flat hp G.calm (sI it G tk h3) (tg_pg G h1) (sSs b G tk hp h4) (folded_no h2)
    · cases h
  | .setf _ _ _, X, N, sc, fn, E, G, tk, hp, s, h => by cases h
  | .kill _, X, N, sc, fn, E, G, tk, hp, s, h => by cases h
  | .rai _ _, X, N, sc, fn, E, G, tk, hp, s, h => by cases h
  | .tr _ _ _, X, N, sc, fn, E, G, tk, hp, s, h => by cases h
theorem sSs {T : Tbl} {c : Ctx} {k : Nat} : ∀ (m : Ss) {X : Cx} {N : List Str} {sc : Scope} {fn : Str → Bool} {E : XK} (G : Good T c k X N sc fn) (tk : Takes X (fun cls d _ H => E cls d H)) (hp : PassesOwn (model X.prog X.w) X.A X.env X.xe) {s : List Stmt}, cSs T N sc fn m s = true → SSs X (EWx X.K X.mg fun cls d _ H => E cls d H) c s m
  | .nil, X, N, sc, fn, E, G, tk, hp, s, h => by
    cases s with
    | nil => exact ss_nil
    | cons _ _ => simp [cSs] at h
  | .cons m ms, X, N, sc, fn, E, G, tk, hp, s, h => by
    by_cases hk : isKill m = true
    · cases m <;> first | (cases hk; done) | skip
      rename_i is
      have q := sSs ms G tk hp (s := s) (by simpa [cSs, isKill] using h)
      have e1 : evSs c (.cons (.kill is) ms) = evSs c ms := by funext E M; simp only [evSs, evS, Res.bind]
      unfold SSs at q ⊢
      rw [e1]; exact q
    · cases s with
      | nil => simp [cSs, hk] at h
      | cons s ss =>
        simp only [cSs, hk] at h
        simp only [Bool.and_eq_true, Bool.false_eq_true, if_false] at h
        exact ss_cons ew_flat (sS m G tk hp h.1) (sSs ms G tk hp h.2)
end
end Wn
end
section
/-! So16: the defs of a program keep what the evaluator tells. -/
namespace Wn
open PySem PySem.Spec PyProof.Rows L2
/-! ### how plain parameters bind -/
def argsOf (as : List Arg) : Arguments := { posonlyargs := [], args := as, vararg := none, kwonlyargs := [], kw_defaults := [], kwarg := none, defaults := [] }
theorem zip_some {β : Type} : ∀ (ns : List Str) (us : List β), us.length = ns.length → ∀ n ∈ ns, ((ns.zip us).lookup n).isSome = true
  | [], _, _, n, h => nomatch h
  | m :: ns, [], hl, _, _ => by simp at hl
  | m :: ns, u :: us, hl, n, h => by
    rw [List.zip_cons_cons, List.lookup_cons]
    by_cases e : n = m
    · simp [e]
    · have : (n == m) = false := by simpa using e
      rw [this]
      rcases List.mem_cons.mp h with h | h
      · exact absurd h e
      · exact zip_some ns us (by simpa using hl) n h
theorem zip_back {β : Type} : ∀ (ns : List Str) (us : List β), ns.Nodup → us.length = ns.length → (ns.filterMap fun n => ((ns.zip us).lookup n).map fun v => (n, v)) = ns.zip us
  | [], us, _, _ => by simp
  | m :: ns, [], _, hl => by simp at hl
  | m :: ns, u :: us, nd, hl => by
    obtain ⟨h1, h2⟩ := List.nodup_cons.mp nd
    have ih := zip_back ns us h2 (by simpa using hl)
    have e0 : ((m :: ns).zip (u :: us)).lookup m = some u := by rw [List.zip_cons_cons, List.lookup_cons]; simp
    rw [List.filterMap_cons, e0]
    simp only [Option.map_some]
    rw [List.zip_cons_cons]
    congr 1
    have cg : ∀ (ls : List Str), (∀ n ∈ ls, n ≠ m) → (ls.filterMap fun n => (((m, u) :: ns.zip us).lookup n).map fun v => (n, v)) = ls.filterMap fun n => ((ns.zip us).lookup n).map fun v => (n, v) := by
      intro ls
      induction ls with
      | nil => intro _; rfl
      | cons n ls il =>
        intro hn
        have e : (n == m) = false := by simpa using hn n (by simp)
        rw [List.filterMap_cons, List.filterMap_cons, List.lookup_cons, e, il fun k hk => hn k (by simp [hk])]
    rw [cg ns (fun n hn z => h1 (z ▸ hn))]
    exact ih
theorem bind_gen {x q : Str} {body : List Stmt} {sc : Scope} {kV doc pm : Value} {an : Option Addr} {cdv ct : Value} (as : List Arg) (nd : (as.map (·.arg)).Nodup) (us : List Value) (h : us.length = as.length) :
    bindArgs (PySem.W.fnOf x q (argsOf as) body sc .none kV doc pm an cdv ct) ⟨us, []⟩ = pure ((as.map (·.arg)).zip us) := by
  have key : ∀ n, (((as.map (·.arg)).take n).filter fun m => (((as.map (·.arg)).zip us).lookup m).isNone) = [] := by
    intro n
    rw [List.filter_eq_nil_iff]
    intro m hm
    have := zip_some (as.map (·.arg)) us (by simpa using h) m (List.mem_of_mem_take hm)
    rw [Option.isNone_iff_eq_none]
    intro z; rw [z] at this; cases this
  unfold bindArgs
  simp only [PySem.W.fnOf, argsOf, List.map_nil, List.nil_append, List.forIn_nil, pure_bind, seqItems?]
  have n0 : notAStandIn Value.none = pure () := rfl
  have c0 : (decide (us.length > (as.map (·.arg)).length) && (none : Option Arg).isNone) = false := by
    rw [List.length_map, decide_eq_false (by omega)]; rfl
  simp only [n0, pure_bind, Option.getD_none, c0, key]
  have zb := zip_back (as.map (·.arg)) us nd (by simpa using h)
  simp only [List.isEmpty_nil, Bool.not_true, Bool.false_eq_true, if_false, List.drop_nil, List.length_nil, Nat.sub_zero, List.drop_length, List.zip_nil_right, List.forIn_nil, pure_bind, List.append_nil, List.nil_append]
  rw [zb]

/-! ### one def -/
/-- a def of the text and its term -/
structure Df where
  name : Str
  d : Fn
  st : Stmt
def argsPlain (a : Arguments) (ps : List Str) : Bool := a.posonlyargs.isEmpty && decide (a.args.map (·.arg) = ps) && a.vararg.isNone && a.kwonlyargs.isEmpty && a.kw_defaults.isEmpty && a.kwarg.isNone && a.defaults.isEmpty
theorem args_plain {a : Arguments} {ps : List Str} (h : argsPlain a ps = true) : a = argsOf a.args ∧ a.args.map (·.arg) = ps := by
  simp only [argsPlain, Bool.and_eq_true, decide_eq_true_eq, List.isEmpty_iff, Option.isNone_iff_eq_none] at h
  obtain ⟨⟨⟨⟨⟨⟨h1, h2⟩, h3⟩, h4⟩, h5⟩, h6⟩, h7⟩ := h
  refine ⟨?_, h2⟩
  cases a
  simp only at h1 h3 h4 h5 h6 h7
  subst h1 h3 h4 h5 h6 h7
  rfl
def scopeB (N ps : List Str) (sc : Scope) : Bool := decide (sc.kind = .function) && !sc.isCoroutine && !sc.isGenerator && decide N.Nodup && decide (N.take ps.length = ps) && (ps.all fun x => match sc.names.lookup x with
  | some .local => true
  | some .cell => true
  | _ => false) && (sc.names.all fun y => match y.2 with
  | .free => false
  | _ => true)
theorem scope_ok {N ps : List Str} {sc : Scope} (h : scopeB N ps sc = true) : FnScope N ps sc := by
  simp only [scopeB, Bool.and_eq_true, decide_eq_true_eq, Bool.not_eq_true', List.all_eq_true] at h
  obtain ⟨⟨⟨⟨⟨⟨h1, h2⟩, h3⟩, h4⟩, h5⟩, h6⟩, h7⟩ := h
  refine ⟨h1, h2, h3, h4, h5, fun x hx => ?_, fun y hy z => ?_⟩
  · have := h6 x hx
    split at this
    · exact Or.inl ‹_›
    · exact Or.inr ‹_›
    · cases this
  · have := h7 y hy
    rw [z] at this
    cases this
def Df.ps (a : Df) : List Str := a.d.names.take a.d.np
def Df.ok (T : Tbl) (a : Df) : Bool := scopeB a.d.names a.ps (defScope a.st) && argsPlain (defArgs a.st) a.ps && decide (a.d.np ≤ a.d.names.length) && cSs T a.d.names (defScope a.st) (fun _ => true) a.d.body (defBody a.st)

section
variable {P : Program} {w : World} {K : PySem.W.Frag} {mg : Str → Option Value} {base : Heap} {T : Tbl} {wf : Nat}
theorem no_fn {r : List PV → Store → Res PV} (h : ∀ a M, r a M = .bad) {CX : CXT} {k : Nat} {f : Addr} {fd : FuncData} {ps : List Str} : FnOk P w K mg base CX k f fd ps (spF K mg r) := by
  have no : ∀ vs H Q E, ¬ spF K mg r vs H Q E := fun vs H Q E ⟨_, _, _, _, _, q⟩ => by rw [h] at q; exact q
  exact ⟨fun vs H Q E q => absurd q (no vs H Q E), fun _ _ _ _ _ _ _ _ _ _ _ _ _ q => absurd q (no _ _ _ _)⟩
theorem start_er {H : Hp} {ρ : List Addr} {args : List PV} {vs : List V} (N : List Str) (r : RPs K H ρ args vs) : ER K H ρ (args.map some ++ List.replicate (N.length - args.length) none) (L2.start N vs) := by
  have hl := r.length
  refine ⟨by simp [L2.start, hl], fun i p e => ?_⟩
  by_cases hi : i < args.length
  · rw [List.getElem?_append_left (by simpa using hi), List.getElem?_map] at e
    simp only [Option.map_eq_some_iff] at e
    obtain ⟨q, h1, h2⟩ := e
    cases h2
    obtain ⟨v, h3, h4⟩ := r.get h1
    refine ⟨v, ?_, h4⟩
    unfold L2.start
    rw [List.getElem?_append_left (by simp; omega), List.getElem?_map, h3]; rfl
  · rw [List.getElem?_append_right (by simp; omega)] at e
    have := List.mem_of_getElem? e
    simp at this
theorem one_fn {k : Nat} {a : Df} {fa : Addr} {fd : FuncData} (hT : T.fn.lookup a.name = some a.d) (ok : a.ok T = true) (F : FunD K a.name a.name (defArgs a.st) (defBody a.st) (defScope a.st) [] [] fa fd)
    (lk : Link P w K mg base T (ctx T wf k) k) : FnOk P w K mg base (L2.CX P w) (k + 1) fa fd a.ps (spF K mg ((ctx T wf (k + 1)).call a.name)) := by
  simp only [Df.ok, Bool.and_eq_true, decide_eq_true_eq] at ok
  obtain ⟨⟨⟨o1, o2⟩, o3⟩, o4⟩ := ok
  have call : ∀ args M, (ctx T wf (k + 1)).call a.name args M = runFn (ctx T wf k) a.d args M := fun args M => by
    show (match T.fn.lookup a.name with
      | some fn => runFn (ctx T wf k) fn args M
      | none => .bad) = _
    rw [hT]
  refine F.ok (scope_ok o1) (fun vs H Q E h => ?_) (fun cdv A outer s H vs Q E hr h => ?_)
  · obtain ⟨ρ, args, M, sr, rs, h⟩ := h
    rw [call] at h
    unfold runFn at h
    split at h
    · rename_i hl
      rw [← rs.length, hl]
      unfold Df.ps
      rw [List.length_take]; omega
    · exact h.elim
  · refine ⟨_, sSs (T := T) (c := ctx T wf k) (k := k) (E := E) a.d.body (N := a.d.names) (sc := defScope a.st) (fn := fun _ => true) ⟨rfl, (scope_ok o1).nd, rfl, rfl, rfl, hr, lk⟩ (takes_of rfl rfl rfl rfl) (passes_of rfl) o4, ?_⟩
    obtain ⟨ρ, args, M, sr, rs, h⟩ := h
    rw [call] at h
    unfold runFn at h
    split at h
    · refine ⟨ρ, _, M, start_er a.d.names rs, sr, post_imp (post_bind (post_slot ew_flat h)) fun ρ1 H1 fl M1 e1 s1 h1 => ?_⟩
      cases fl with
      | nx E1 => exact fun σ' _ => post_ok (show post K mg _ _ H1 ρ1 (.ok .non M1) (gE K Q) from h1) s1 _ .non
      | bk E1 => exact h1.elim
      | ct E1 => exact h1.elim
      | rt v => exact fun u ru => post_ok (show post K mg _ _ H1 ρ1 (.ok v M1) (gE K Q) from h1) s1 u ru
    · exact h.elim
/-! ### all of them -/
/-- what the head tells -/
structure Told (K : PySem.W.Frag) (mg : Str → Option Value) (T : Tbl) (ds : List Df) : Prop where
  fn : ∀ f d, T.fn.lookup f = some d → ∃ a ∈ ds, a.name = f ∧ a.d = d
  at_ : ∀ a ∈ ds, T.fn.lookup a.name = some a.d ∧ a.ok T = true ∧ ∃ fa fd, mg a.name = some (.ref fa) ∧ FunD K a.name a.name (defArgs a.st) (defBody a.st) (defScope a.st) [] [] fa fd
  glo : ∀ x p, T.glo.lookup x = some p → ∃ u v, mg x = some u ∧ RelV v u ∧ ∀ H ρ, RP K H ρ p v
  free : ∀ x ∈ biNames, mg x = none
theorem binds_of {a : Df} {fa : Addr} {fd : FuncData} (ok : a.ok T = true) (F : FunD K a.name a.name (defArgs a.st) (defBody a.st) (defScope a.st) [] [] fa fd) : (∀ (s : Shared) (us : List Value), us.length = a.ps.length → BindsTo s fd ⟨us, []⟩ (a.ps.zip us)) ∧ Binds K fd a.ps [] := by
  simp only [Df.ok, Bool.and_eq_true, decide_eq_true_eq] at ok
  obtain ⟨⟨⟨o1, o2⟩, o3⟩, o4⟩ := ok
  obtain ⟨e1, e2⟩ := args_plain o2
  have nd : ((defArgs a.st).args.map (·.arg)).Nodup := by
    rw [e2]
    exact (scope_ok o1).nd.sublist (List.take_sublist _ _)
  have b : ∀ (kV doc pm : Value) (an : Option Addr) (cdv ct : Value) (us : List Value), us.length = a.ps.length → bindArgs (PySem.W.fnOf a.name a.name (defArgs a.st) (defBody a.st) (defScope a.st) .none kV doc pm an cdv ct) ⟨us, []⟩ = pure (a.ps.zip us) := by
    intro kV doc pm an cdv ct us hl
    rw [e1, bind_gen _ nd us (by rw [hl, ← e2, List.length_map]), e2]
  exact ⟨fun s us hl => FunD.bindsA F b s us hl, F.bindsN b⟩
theorem links {ds : List Df} (t : Told K mg T ds) : ∀ k, Link P w K mg base T (ctx T wf k) k
  | 0 => ⟨fun f d h => by
      obtain ⟨a, ha, rfl, rfl⟩ := t.fn f d h
      obtain ⟨h1, h2, fa, fd, h3, F⟩ := t.at_ a ha
      exact ⟨fa, fd, h3, F.kp, (binds_of h2 F).2, no_fn fun _ _ => rfl⟩, t.glo, t.free⟩
  | k + 1 => ⟨fun f d h => by
      obtain ⟨a, ha, rfl, rfl⟩ := t.fn f d h
      obtain ⟨h1, h2, fa, fd, h3, F⟩ := t.at_ a ha
      exact ⟨fa, fd, h3, F.kp, (binds_of h2 F).2, one_fn h1 h2 F (links t k)⟩, t.glo, t.free⟩
end
end Wn
end
section
/-! So17: what the head must tell, and the end of a law. -/
namespace Wn
open PySem PySem.Spec PyProof.Rows L2
/-! ### constants of the module -/
mutual
def pvB (K : PySem.W.Frag) : PV → Value → Bool
  | .non, u => (match u with
    | .none => true
    | _ => false)
  | .bl b, u => (match u with
    | .bool d => b == d
    | _ => false)
  | .int i, u => (match u with
    | .int j _ => decide (i = j)
    | _ => false)
  | .str x, u => (match u with
    | .str y _ => decide (x = y)
    | _ => false)
  | .tup xs, u => (match u with
    | .ref a => (match K.lookup a with
      | some o => (match o.data with
        | .seq its _ => decide (o.cls = .type "tuple") && decide (its.size ≤ sizeLine) && pvBs K xs its.toList
        | _ => false)
      | none => false)
    | _ => false)
  | .loc _, _ => false
  | .fl _, _ => false
  | .exc _ _ _, _ => false
def pvBs (K : PySem.W.Frag) : List PV → List Value → Bool
  | [], us => us.isEmpty
  | x :: xs, us => (match us with
    | u :: r => pvB K x u && pvBs K xs r
    | [] => false)
end
mutual
theorem pvB_ok {K : PySem.W.Frag} : ∀ {p : PV} {u : Value}, pvB K p u = true → ∃ v, RelV v u ∧ ∀ H ρ, RP K H ρ p v
  | .non, u, h => by
    simp only [pvB] at h
    split at h
    · exact ⟨.non, rfl, fun _ _ => .non⟩
    · cases h
  | .bl b, u, h => by
    simp only [pvB] at h
    split at h
    · cases eq_of_beq h; exact ⟨.bl b, rfl, fun _ _ => .bl b⟩
    · cases h
  | .int i, u, h => by
    simp only [pvB] at h
    split at h
    · cases of_decide_eq_true h; exact ⟨.int i, ⟨_, rfl⟩, fun _ _ => .int i⟩
    · cases h
  | .str i, u, h => by
    simp only [pvB] at h
    split at h
    · cases of_decide_eq_true h; exact ⟨.str i, ⟨_, rfl⟩, fun _ _ => .str i⟩
    · cases h
  | .tup xs, u, h => by
    simp only [pvB] at h
    split at h
    · rename_i a
      split at h
      · rename_i o ho
        split at h
        · rename_i its n hd
          simp only [Bool.and_eq_true, decide_eq_true_eq] at h
          obtain ⟨⟨h1, h2⟩, h3⟩ := h
          obtain ⟨vs, q1, q2⟩ := pvBs_ok h3
          exact ⟨.ref a, rfl, fun H ρ => .tup (Or.inr ⟨o, its, n, ho, h1, hd, h2, q1⟩) (q2 H ρ)⟩
        · cases h
      · cases h
    · cases h
  | .loc _, _, h => by cases h
  | .fl _, _, h => by cases h
  | .exc _ _ _, _, h => by cases h
theorem pvBs_ok {K : PySem.W.Frag} : ∀ {ps : List PV} {us : List Value}, pvBs K ps us = true → ∃ vs, Vals vs us ∧ ∀ H ρ, RPs K H ρ ps vs
  | [], us, h => by
    cases us with
    | nil => exact ⟨[], .nil, fun _ _ => .nil⟩
    | cons _ _ => simp [pvBs] at h
  | p :: ps, us, h => by
    cases us with
    | nil => simp [pvBs] at h
    | cons u us =>
      simp only [pvBs, Bool.and_eq_true] at h
      obtain ⟨v, q1, q2⟩ := pvB_ok h.1
      obtain ⟨vs, q3, q4⟩ := pvBs_ok h.2
      exact ⟨v :: vs, .cons q1 q3, fun H ρ => .cons (q2 H ρ) (q4 H ρ)⟩
end
def constB (K : PySem.W.Frag) (c : Str × PV) : Bool := match PySem.W.nsIn K mainGlobals c.1 with
  | some (some u) => pvB K c.2 u
  | _ => false

/-! ### the hook -/
def dOf (a : Df) : He.DefD := ⟨(a.name, none), a.name, a.name, defArgs a.st, defBody a.st, defScope a.st, [], []⟩
abbrev AlW : Type := Bool × List He.FnW
def obsW (ds : List Df) (cs : List (Str × PV)) (K : PySem.W.Frag) : AlW :=
  ((ds.all fun a => (He.Fa.glo a.name).ok K && (dOf a).ok K) && (biNames.all fun x => (He.Fa.free x).ok K) && cs.all (constB K), ds.map fun a => He.fnW K (dOf a).at_)
def valW (ds : List Df) : AlW := (true, ds.map fun a => (dOf a).val)
def SaysW (ds : List Df) (cs : List (Str × PV)) (K : PySem.W.Frag) : Prop := obsW ds cs K = valW ds
def obsWG (n : Nat) (ds : List Df) (cs : List (Str × PV)) (g : Addr → Option Obj) : AlW := obsW ds cs (He.frG g (He.asD g n))
def hookW (n : Nat) (ds : List Df) (cs : List (Str × PV)) : PySem.W.Hook where
  α := AlW
  obs := fun s => obsWG n ds cs s.heap.get?
  val := fun _ => valW ds
  says := fun _ h => ∃ K : PySem.W.Frag, K.In h ∧ SaysW ds cs K
  of := fun _ _ e => ⟨_, He.frG_in, e⟩
  keeps := fun _ _ _ ⟨K, hK, q⟩ k => ⟨K, PySem.W.Frag.In.keeps hK k, q⟩
theorem obsWG_eq {n : Nat} {ds : List Df} {cs : List (Str × PV)} {g : Addr → Option Obj} {s : Shared} (h : ∀ a, g a = s.heap.get? a) : obsWG n ds cs g = (hookW n ds cs).obs s := by
  have e : g = s.heap.get? := funext h
  rw [e]; rfl
/-- the table and the text's defs are one -/
def tblB (T : Tbl) (ds : List Df) : Bool := decide (T.fn.map (·.1) = ds.map (·.name)) && decide ((T.fn.map (·.1)).Nodup) && ds.all (fun a => a.ok T)
theorem lookup_mem {α : Type} : ∀ {l : List (Str × α)} {f : Str} {d : α}, l.lookup f = some d → (f, d) ∈ l
  | [], _, _, h => by cases h
  | (g, e) :: l, f, d, h => by
    rw [List.lookup_cons] at h
    by_cases q : f = g
    · subst q; simp at h; subst h; exact List.mem_cons_self
    · have : (f == g) = false := by simpa using q
      rw [this] at h
      exact List.mem_cons_of_mem _ (lookup_mem h)
theorem SaysW.told {ds : List Df} {cs : List (Str × PV)} {K : PySem.W.Frag} {h : Heap} {mg : Str → Option Value} (X : K.In h) (G : h.Ns mainGlobals mg) (c : SaysW ds cs K) {T : Tbl} (hf : T.fn = ds.map fun a => (a.name, a.d)) (hg : T.glo = cs) (nd : (ds.map (·.name)).Nodup) (ok : ds.all (fun a => a.ok T) = true) : Told K mg T ds := by
  unfold SaysW obsW valW at c
  injection c with c1 c2
  simp only [Bool.and_eq_true, List.all_eq_true] at c1
  obtain ⟨⟨c3, c4⟩, c5⟩ := c1
  have look : ∀ {l : List Df}, (l.map (·.name)).Nodup → ∀ a ∈ l, (l.map fun a => (a.name, a.d)).lookup a.name = some a.d := by
    intro l
    induction l with
    | nil => intro _ a ha; cases ha
    | cons b l ih =>
      intro nd a ha
      rw [List.map_cons] at nd
      obtain ⟨n1, n2⟩ := List.nodup_cons.mp nd
      rw [List.map_cons, List.lookup_cons]
      rcases List.mem_cons.mp ha with rfl | ha
      · simp
      · have : (a.name == b.name) = false := by
          simp
          intro z
          exact n1 (by rw [← z]; exact List.mem_map_of_mem ha)
        rw [this]
        exact ih n2 a ha
  refine ⟨fun f d q => ?_, fun a ha => ⟨?_, List.all_eq_true.mp ok a ha, ?_⟩, fun x p q => ?_, fun x hx => He.free_ok X G (c4 x hx)⟩
  · have := lookup_mem q
    rw [hf, List.mem_map] at this
    obtain ⟨a, ha, e⟩ := this
    cases e
    exact ⟨a, ha, rfl, rfl⟩
  · rw [hf]; exact look nd a ha
  · obtain ⟨d1, d2⟩ := c3 a ha
    have d3 : He.fnW K (dOf a).at_ = (dOf a).val := by
      have : ∀ {l : List Df}, (l.map fun a => He.fnW K (dOf a).at_) = (l.map fun a => (dOf a).val) → ∀ a ∈ l, He.fnW K (dOf a).at_ = (dOf a).val := by
        intro l
        induction l with
        | nil => intro _ a ha; cases ha
        | cons b l ih =>
          intro e a ha
          rw [List.map_cons, List.map_cons] at e
          injection e with e1 e2
          rcases List.mem_cons.mp ha with rfl | ha
          · exact e1
          · exact ih e2 a ha
      exact this c2 a ha
    obtain ⟨fd, F⟩ := He.DefD.funD d3 d2
    exact ⟨He.fAd K (dOf a).at_, fd, He.glo_ok X G d1, F⟩
  · rw [hg] at q
    have := c5 (x, p) (lookup_mem q)
    unfold constB at this
    split at this
    · rename_i u hu
      obtain ⟨v, q1, q2⟩ := pvB_ok this
      exact ⟨u, v, PySem.W.mg_of X G hu, q1, q2⟩
    · cases this
/-! ### the end of a law -/
abbrev Slim (ns : List Int) : Prop := ∀ z ∈ ns, Builtin.Int.intBits z ≤ 1048576
theorem law_sp {K : PySem.W.Frag} {mg : Str → Option Value} {r : List PV → Store → Res PV} {n : Nat} (hr : ∀ ns : List Int, ns.length ≤ n → Slim ns → ∃ M', r [.fl ns] [] = .ok (.bl true) M') (H : Hp) (a : Addr) (ns : List Int) (hl : ns.length ≤ n) (hb : Slim ns) (hO : Only H) (hS : SqL K H a (ns.map V.int)) :
    spF K mg r [.ref a] H (fun v _ => v = .bl true) fun _ _ _ => False := by
  obtain ⟨M', e⟩ := hr ns hl hb
  have st : Still K H a (ns.map V.int) := by
    rcases hS with (h | ⟨o, h⟩) | h
    · rcases hO a with q | ⟨o, xs, q⟩
      · rw [q] at h; cases h
      · rw [q] at h; cases h
    · exact Or.inl ⟨o, h⟩
    · exact Or.inr fun H' => Or.inr h
  refine ⟨[], [.fl ns], [], ⟨rfl, List.nodup_nil, fun n a o h => by simp at h⟩, .cons (.fl st) .nil, ?_⟩
  rw [e]
  intro ρ' H' _ _ v rv
  cases rv
  rfl
theorem law_end {l : PySem.W.OpenLaw} {w : World} {K : PySem.W.Frag} {mg : Str → Option Value} {h : Heap} {f : Addr} {ds : List Df} {cs : List (Str × PV)} {T : Tbl} {wf k : Nat} {a : Df} {x : Str} (X : K.In h) (G : h.Ns mainGlobals mg) (hfa : mg ("law" : Str) = some (.ref f)) (c : SaysW ds cs K)
    (hf : T.fn = ds.map fun a => (a.name, a.d)) (hg : T.glo = cs) (nd : (ds.map (·.name)).Nodup) (ok : ds.all (fun a => a.ok T) = true) (ha : a ∈ ds) (hn : a.name = ("law" : Str)) (hp : a.ps = [x]) :
    ∃ fd : FuncData, (∀ (s : Shared) (v : Value), BindsTo s fd ⟨[v], []⟩ [(x, v)]) ∧ ∀ base : Heap, K.In base → base.Ns mainGlobals mg → FnOk l.prog w K mg base (L2.CX l.prog w) (k + 1) f fd [x] (spF K mg (calls T wf (k + 1) "law")) := by
  have t := c.told X G hf hg nd ok
  obtain ⟨h1, h2, fa, fd, h3, F⟩ := t.at_ a ha
  rw [hn] at h3
  have e := hfa.symm.trans h3
  cases e
  have b := (binds_of h2 F).1
  rw [hp] at b
  refine ⟨fd, fun s v => b s [v] rfl, fun base _ _ => ?_⟩
  have q := one_fn (P := l.prog) (w := w) (mg := mg) (base := base) (wf := wf) (k := k) h1 h2 F (links t k)
  rw [hp, hn] at q
  exact q
/-- the walk of a law, from its def's promise -/
theorem walk_end {l : PySem.W.OpenLaw} {most k : Nat} {q : Program} {loose : List Str} {XP : (Str → Option Value) → Heap → Prop} {YP : World → Heap → Prop} {d : DefRec} {cx : World → CXT} {x : Str} (hm : l.most = some most) (hz : most ≤ sizeLine) (hd : d.params.defaults = []) (room : Room k callerA)
    (told : ∀ (w : World) (mg : Str → Option Value) (fa : Addr) (h : Heap), YP w h → h.Ns mainGlobals mg → mg d.name = some (.ref fa) → ∃ (K : PySem.W.Frag) (fd : FuncData) (sp : Sp), K.In h ∧ (∀ (s : Shared) (u : Value), BindsTo s fd ⟨[u], []⟩ [(x, u)]) ∧
      (∀ (H : Hp) (a : Addr) (ns : List Int), ns.length ≤ most → Slim ns → Only H → SqL K H a (ns.map V.int) → sp [.ref a] H (fun v _ => v = .bl true) fun _ _ _ => False) ∧ ∀ base : Heap, K.In base → base.Ns mainGlobals mg → FnOk l.prog w K mg base (cx w) k fa fd [x] sp)
    (none_out : ∀ (w : World) (H : Hp) (s : Shared) (e : Value) (s' : Shared), cx w [] H s (fun _ _ _ => False) e s' → False) : PySem.W.WalkO q loose XP YP l.row.toRowW d [] (fun f vs => PySem.call f vs) := by
  refine Att.attach_callB hm hd fun w _ st mg _ fa _ _ _ _ a _ ns Gr Yh _ _ _ atF isL areI len bits gens0 => ?_
  obtain ⟨K, fd, sp, inK, bind, keeps, fine⟩ := told w mg fa _ Yh Gr.T.g atF
  exact law_call inK Gr.T.g Gr.T.b Gr.T.builtins Gr.T.nolimit gens0 isL areI (Nat.le_trans len hz) room fine bind (fun H o h => keeps H a ns len bits o h) fun H e s' => none_out w H st e s'
theorem noCX {P : Program} {w : World} (H : Hp) (s : Shared) (e : Value) (s' : Shared) (h : L2.CX P w [] H s (fun _ _ _ => False) e s') : False := by
  obtain ⟨_, _, _, _, _, _, _, _, _, _, _, _, q⟩ := h
  exact q
end Wn
end
section
/-! Vv: values without places: what is owned, what stands still; the same programs over these. -/
namespace Wn
open PySem

/-- what never changes any more -/
inductive I where
  | non
  | bl (b : Bool)
  | int (i : Int)
  | str (x : Str)
  | fl (xs : List Int)
  | tup (xs : List I)
  | lst (xs : List I)
  | dic (ks vs : List I)
  | ins (C : Str) (fs : List Str) (vs : List I)
  | exc (C : Str) (fs : List Str) (vs : List I)
  deriving Inhabited

mutual
def I.dec : (a b : I) → Decidable (a = b)
  | .non, .non => Decidable.isTrue rfl
  | .bl a0, .bl b0 =>
    match (inferInstance : Decidable (a0 = b0)) with
    | Decidable.isFalse h => Decidable.isFalse (by intro e; injection e; contradiction)
    | Decidable.isTrue h0 =>
      Decidable.isTrue (by rw [h0])
  | .int a0, .int b0 =>
    match (inferInstance : Decidable (a0 = b0)) with
    | Decidable.isFalse h => Decidable.isFalse (by intro e; injection e; contradiction)
    | Decidable.isTrue h0 =>
      Decidable.isTrue (by rw [h0])
  | .str a0, .str b0 =>
    match (inferInstance : Decidable (a0 = b0)) with
    | Decidable.isFalse h => Decidable.isFalse (by intro e; injection e; contradiction)
    | Decidable.isTrue h0 =>
      Decidable.isTrue (by rw [h0])
  | .fl a0, .fl b0 =>
    match (inferInstance : Decidable (a0 = b0)) with
    | Decidable.isFalse h => Decidable.isFalse (by intro e; injection e; contradiction)
    | Decidable.isTrue h0 =>
      Decidable.isTrue (by rw [h0])
  | .tup a0, .tup b0 =>
    match I.decL a0 b0 with
    | Decidable.isFalse h => Decidable.isFalse (by intro e; injection e; contradiction)
    | Decidable.isTrue h0 =>
      Decidable.isTrue (by rw [h0])
  | .lst a0, .lst b0 =>
    match I.decL a0 b0 with
    | Decidable.isFalse h => Decidable.isFalse (by intro e; injection e; contradiction)
    | Decidable.isTrue h0 =>
      Decidable.isTrue (by rw [h0])
  | .dic a0 a1, .dic b0 b1 =>
    match I.decL a0 b0 with
    | Decidable.isFalse h => Decidable.isFalse (by intro e; injection e; contradiction)
    | Decidable.isTrue h0 =>
      match I.decL a1 b1 with
      | Decidable.isFalse h => Decidable.isFalse (by intro e; injection e; contradiction)
      | Decidable.isTrue h1 =>
        Decidable.isTrue (by rw [h0, h1])
  | .ins a0 a1 a2, .ins b0 b1 b2 =>
    match (inferInstance : Decidable (a0 = b0)) with
    | Decidable.isFalse h => Decidable.isFalse (by intro e; injection e; contradiction)
    | Decidable.isTrue h0 =>
      match (inferInstance : Decidable (a1 = b1)) with
      | Decidable.isFalse h => Decidable.isFalse (by intro e; injection e; contradiction)
      | Decidable.isTrue h1 =>
        match I.decL a2 b2 with
        | Decidable.isFalse h => Decidable.isFalse (by intro e; injection e; contradiction)
        | Decidable.isTrue h2 =>
          Decidable.isTrue (by rw [h0, h1, h2])
  | .exc a0 a1 a2, .exc b0 b1 b2 =>
    match (inferInstance : Decidable (a0 = b0)) with
    | Decidable.isFalse h => Decidable.isFalse (by intro e; injection e; contradiction)
    | Decidable.isTrue h0 =>
      match (inferInstance : Decidable (a1 = b1)) with
      | Decidable.isFalse h => Decidable.isFalse (by intro e; injection e; contradiction)
      | Decidable.isTrue h1 =>
        match I.decL a2 b2 with
        | Decidable.isFalse h => Decidable.isFalse (by intro e; injection e; contradiction)
        | Decidable.isTrue h2 =>
          Decidable.isTrue (by rw [h0, h1, h2])
  | .non, .bl _ => Decidable.isFalse (by intro e; nomatch e)
  | .non, .int _ => Decidable.isFalse (by intro e; nomatch e)
  | .non, .str _ => Decidable.isFalse (by intro e; nomatch e)
  | .non, .fl _ => Decidable.isFalse (by intro e; nomatch e)
  | .non, .tup _ => Decidable.isFalse (by intro e; nomatch e)
  | .non, .lst _ => Decidable.isFalse (by intro e; nomatch e)
  | .non, .dic _ _ => Decidable.isFalse (by intro e; nomatch e)
  | .non, .ins _ _ _ => Decidable.isFalse (by intro e; nomatch e)
  | .non, .exc _ _ _ => Decidable.isFalse (by intro e; nomatch e)
  | .bl _, .non => Decidable.isFalse (by intro e; nomatch e)
  | .bl _, .int _ => Decidable.isFalse (by intro e; nomatch e)
  | .bl _, .str _ => Decidable.isFalse (by intro e; nomatch e)
  | .bl _, .fl _ => Decidable.isFalse (by intro e; nomatch e)
  | .bl _, .tup _ => Decidable.isFalse (by intro e; nomatch e)
  | .bl _, .lst _ => Decidable.isFalse (by intro e; nomatch e)
  | .bl _, .dic _ _ => Decidable.isFalse (by intro e; nomatch e)
  | .bl _, .ins _ _ _ => Decidable.isFalse (by intro e; nomatch e)
  | .bl _, .exc _ _ _ => Decidable.isFalse (by intro e; nomatch e)
  | .int _, .non => Decidable.isFalse (by intro e; nomatch e)
  | .int _, .bl _ => Decidable.isFalse (by intro e; nomatch e)
  | .int _, .str _ => Decidable.isFalse (by intro e; nomatch e)
  | .int _, .fl _ => Decidable.isFalse (by intro e; nomatch e)
  | .int _, .tup _ => Decidable.isFalse (by intro e; nomatch e)
  | .int _, .lst _ => Decidable.isFalse (by intro e; nomatch e)
  | .int _, .dic _ _ => Decidable.isFalse (by intro e; nomatch e)
  | .int _, .ins _ _ _ => Decidable.isFalse (by intro e; nomatch e)
  | .int _, .exc _ _ _ => Decidable.isFalse (by intro e; nomatch e)
  | .str _, .non => Decidable.isFalse (by intro e; nomatch e)
  | .str _, .bl _ => Decidable.isFalse (by intro e; nomatch e)
  | .str _, .int _ => Decidable.isFalse (by intro e; nomatch e)
  | .str _, .fl _ => Decidable.isFalse (by intro e; nomatch e)
  | .str _, .tup _ => Decidable.isFalse (by intro e; nomatch e)
  | .str _, .lst _ => Decidable.isFalse (by intro e; nomatch e)
  | .str _, .dic _ _ => Decidable.isFalse (by intro e; nomatch e)
  | .str _, .ins _ _ _ => Decidable.isFalse (by intro e; nomatch e)
  | .str _, .exc _ _ _ => Decidable.isFalse (by intro e; nomatch e)
  | .fl _, .non => Decidable.isFalse (by intro e; nomatch e)
  | .fl _, .bl _ => Decidable.isFalse (by intro e; nomatch e)
  | .fl _, .int _ => Decidable.isFalse (by intro e; nomatch e)
  | .fl _, .str _ => Decidable.isFalse (by intro e; nomatch e)
  | .fl _, .tup _ => Decidable.isFalse (by intro e; nomatch e)
  | .fl _, .lst _ => Decidable.isFalse (by intro e; nomatch e)
  | .fl _, .dic _ _ => Decidable.isFalse (by intro e; nomatch e)
  | .fl _, .ins _ _ _ => Decidable.isFalse (by intro e; nomatch e)
  | .fl _, .exc _ _ _ => Decidable.isFalse (by intro e; nomatch e)
  | .tup _, .non => Decidable.isFalse (by intro e; nomatch e)
  | .tup _, .bl _ => Decidable.isFalse (by intro e; nomatch e)
  | .tup _, .int _ => Decidable.isFalse (by intro e; nomatch e)
  | .tup _, .str _ => Decidable.isFalse (by intro e; nomatch e)
  | .tup _, .fl _ => Decidable.isFalse (by intro e; nomatch e)
  | .tup _, .lst _ => Decidable.isFalse (by intro e; nomatch e)
  | .tup _, .dic _ _ => Decidable.isFalse (by intro e; nomatch e)
  | .tup _, .ins _ _ _ => Decidable.isFalse (by intro e; nomatch e)
  | .tup _, .exc _ _ _ => Decidable.isFalse (by intro e; nomatch e)
  | .lst _, .non => Decidable.isFalse (by intro e; nomatch e)
  | .lst _, .bl _ => Decidable.isFalse (by intro e; nomatch e)
  | .lst _, .int _ => Decidable.isFalse (by intro e; nomatch e)
  | .lst _, .str _ => Decidable.isFalse (by intro e; nomatch e)
  | .lst _, .fl _ => Decidable.isFalse (by intro e; nomatch e)
  | .lst _, .tup _ => Decidable.isFalse (by intro e; nomatch e)
  | .lst _, .dic _ _ => Decidable.isFalse (by intro e; nomatch e)
  | .lst _, .ins _ _ _ => Decidable.isFalse (by intro e; nomatch e)
  | .lst _, .exc _ _ _ => Decidable.isFalse (by intro e; nomatch e)
  | .dic _ _, .non => Decidable.isFalse (by intro e; nomatch e)
  | .dic _ _, .bl _ => Decidable.isFalse (by intro e; nomatch e)
  | .dic _ _, .int _ => Decidable.isFalse (by intro e; nomatch e)
  | .dic _ _, .str _ => Decidable.isFalse (by intro e; nomatch e)
  | .dic _ _, .fl _ => Decidable.isFalse (by intro e; nomatch e)
  | .dic _ _, .tup _ => Decidable.isFalse (by intro e; nomatch e)
  | .dic _ _, .lst _ => Decidable.isFalse (by intro e; nomatch e)
  | .dic _ _, .ins _ _ _ => Decidable.isFalse (by intro e; nomatch e)
  | .dic _ _, .exc _ _ _ => Decidable.isFalse (by intro e; nomatch e)
  | .ins _ _ _, .non => Decidable.isFalse (by intro e; nomatch e)
  | .ins _ _ _, .bl _ => Decidable.isFalse (by intro e; nomatch e)
  | .ins _ _ _, .int _ => Decidable.isFalse (by intro e; nomatch e)
  | .ins _ _ _, .str _ => Decidable.isFalse (by intro e; nomatch e)
  | .ins _ _ _, .fl _ => Decidable.isFalse (by intro e; nomatch e)
  | .ins _ _ _, .tup _ => Decidable.isFalse (by intro e; nomatch e)
  | .ins _ _ _, .lst _ => Decidable.isFalse (by intro e; nomatch e)
  | .ins _ _ _, .dic _ _ => Decidable.isFalse (by intro e; nomatch e)
  | .ins _ _ _, .exc _ _ _ => Decidable.isFalse (by intro e; nomatch e)
  | .exc _ _ _, .non => Decidable.isFalse (by intro e; nomatch e)
  | .exc _ _ _, .bl _ => Decidable.isFalse (by intro e; nomatch e)
  | .exc _ _ _, .int _ => Decidable.isFalse (by intro e; nomatch e)
  | .exc _ _ _, .str _ => Decidable.isFalse (by intro e; nomatch e)
  | .exc _ _ _, .fl _ => Decidable.isFalse (by intro e; nomatch e)
  | .exc _ _ _, .tup _ => Decidable.isFalse (by intro e; nomatch e)
  | .exc _ _ _, .lst _ => Decidable.isFalse (by intro e; nomatch e)
  | .exc _ _ _, .dic _ _ => Decidable.isFalse (by intro e; nomatch e)
  | .exc _ _ _, .ins _ _ _ => Decidable.isFalse (by intro e; nomatch e)
def I.decL : (a b : List I) → Decidable (a = b)
  | [], [] => Decidable.isTrue rfl
  | a :: as, b :: bs => match I.dec a b with
    | Decidable.isFalse h => Decidable.isFalse (by intro e; injection e; contradiction)
    | Decidable.isTrue h => match I.decL as bs with
      | Decidable.isTrue g => Decidable.isTrue (by rw [h, g])
      | Decidable.isFalse g => Decidable.isFalse (by intro e; injection e; contradiction)
  | [], _ :: _ => Decidable.isFalse (by intro e; nomatch e)
  | _ :: _, [] => Decidable.isFalse (by intro e; nomatch e)
end
instance : DecidableEq I := I.dec

/-- what one alone holds, or what stands still; or a name that holds nothing -/
inductive Knd where
  | lst
  | dic (ks : List I)
  | ins (C : Str) (fs : List Str)
inductive V where
  | im (x : I)
  | tup (vs : List V)
  | obj (k : Knd) (vs : List V)
  | gone
  deriving Inhabited
abbrev V.lst (vs : List V) : V := .obj .lst vs
abbrev V.dic (ks : List I) (vs : List V) : V := .obj (.dic ks) vs
abbrev V.ins (C : Str) (fs : List Str) (vs : List V) : V := .obj (.ins C fs) vs
def Knd.i : Knd → List I → I
  | .lst, xs => .lst xs
  | .dic ks, xs => .dic ks xs
  | .ins C fs, xs => .ins C fs xs
abbrev VE := List V

inductive R (α : Type) where
  | ok (a : α) (E : VE)
  | err (C : Str) (fs : List Str) (vs : List I) (E : VE)
  | bad
def R.bind {α β : Type} : R α → (α → VE → R β) → R β
  | .ok a E, f => f a E
  | .err C fs vs E, _ => .err C fs vs E
  | .bad, _ => .bad
/-- what a call comes to: a value, and what its arguments hold behind it -/
inductive RO where
  | ok (v : V) (outs : List V)
  | err (C : Str) (fs : List Str) (vs : List I) (outs : List V)
  | bad

/-! ### standing still -/
mutual
def V.freeze : V → Option I
  | .im x => some x
  | .tup vs => (V.freezes vs).map .tup
  | .obj k vs => (V.freezes vs).map k.i
  | .gone => none
def V.freezes : List V → Option (List I)
  | [] => some []
  | v :: vs => match V.freeze v with
    | some x => (V.freezes vs).map fun xs => x :: xs
    | none => none
end
/-- all stand still -/
def ims : List V → Option (List I)
  | [] => some []
  | .im x :: vs => (ims vs).map fun xs => x :: xs
  | _ => none
/-- what lies right in it stands still -/
def V.flat : V → Option I
  | .im x => some x
  | .tup vs => (ims vs).map .tup
  | .obj k vs => (ims vs).map k.i
  | .gone => none
def mkTup (vs : List V) : V := match ims vs with
  | some xs => .im (.tup xs)
  | none => .tup vs

/-! ### places -/
def V.kids : V → Option (List V)
  | .tup vs => some vs
  | .obj _ vs => some vs
  | _ => none
def V.with : V → List V → V
  | .tup _, vs => .tup vs
  | .obj k _, vs => .obj k vs
  | v, _ => v
def V.peek (v : V) : List Nat → Option V
  | [] => some v
  | j :: js => match v.kids with
    | some vs => (match vs[j]? with
      | some u => u.peek js
      | none => none)
    | none => none
def V.poke (v : V) (w : V) : List Nat → V
  | [] => w
  | j :: js => match v.kids with
    | some vs => (match vs[j]? with
      | some u => v.with (vs.set j (u.poke w js))
      | none => v)
    | none => v
def peekE (E : VE) (i : Nat) (js : List Nat) : Option V := match E[i]? with
  | some v => v.peek js
  | none => none
def pokeE (E : VE) (i : Nat) (js : List Nat) (w : V) : VE := match E[i]? with
  | some v => E.set i (v.poke w js)
  | none => E

/-! ### operations on what stands still -/
def iKey : I → Bool
  | .int _ => true
  | .str _ => true
  | _ => false
/-- where a key stands -/
def keyIx (k : I) : List I → Option Nat
  | [] => none
  | x :: xs => if x = k then some 0 else (keyIx k xs).map (· + 1)
def fldIx (f : Str) : List Str → Option Nat
  | [] => none
  | x :: xs => if x = f then some 0 else (fldIx f xs).map (· + 1)

mutual
/-- truths are numbers; nothing where there is a dict, an instance -/
def I.dv : I → Option DV
  | .non => some .non
  | .bl b => some (.int (if b then 1 else 0))
  | .int i => some (.int i)
  | .str x => some (.str x)
  | .tup xs => (I.dvs xs).map .tup
  | .lst xs => (I.dvs xs).map .lst
  | _ => none
def I.dvs : List I → Option (List DV)
  | [] => some []
  | x :: xs => match I.dv x with
    | some d => (I.dvs xs).map fun ds => d :: ds
    | none => none
end
mutual
/-- how many lists are within one another -/
def I.lists : I → Nat
  | .lst xs => I.listss xs + 1
  | .tup xs => I.listss xs
  | _ => 0
def I.listss : List I → Nat
  | [] => 0
  | x :: xs => max x.lists (I.listss xs)
end
def iEq (a b : I) : Option Bool := match a.dv, b.dv with
  | some d, some e => if a.lists ≤ 3 ∧ b.lists ≤ 3 ∧ min d.deep e.deep ≤ 190 then some (decide (d = e)) else none
  | _, _ => none
def iAnyEq (x : I) : List I → Option Bool
  | [] => some false
  | y :: ys => match iEq y x, iAnyEq x ys with
    | some b, some c => some (b || c)
    | _, _ => none
def iIn (x : I) : I → Option Bool
  | .str y => (match x with
    | .str z => hasSign z y
    | _ => none)
  | .tup ys => iAnyEq x ys
  | .lst ys => iAnyEq x ys
  | .dic ks _ => if iKey x then some (decide (x ∈ ks)) else none
  | _ => none
def iIs : I → I → Option Bool
  | a, .non => some (decide (a = .non))
  | .bl a, .bl b => some (decide (a = b))
  | _, _ => none
def iCmp : COp → I → I → Option Bool
  | .eq, a, b => iEq a b
  | .ne, a, b => (iEq a b).map (!·)
  | .lt, .int a, .int b => some (decide (a < b))
  | .le, .int a, .int b => some (decide (a ≤ b))
  | .gt, .int a, .int b => some (decide (b < a))
  | .ge, .int a, .int b => some (decide (b ≤ a))
  | .isin, a, b => iIn a b
  | .notin, a, b => (iIn a b).map (!·)
  | .is_, a, b => iIs a b
  | .isnot, a, b => (iIs a b).map (!·)
  | _, _, _ => none
def iTruth : I → Option Bool
  | .non => some false
  | .bl b => some b
  | .int i => some (i != 0)
  | .str x => if x.length ≤ big then some (x.length != 0) else none
  | .tup xs => some (!xs.isEmpty)
  | .lst xs => some (!xs.isEmpty)
  | .dic ks _ => some (!ks.isEmpty)
  | _ => none
def iIdx : I → I → Option I
  | .fl xs, .int i => (ixOf xs.length i).bind fun j => (xs[j]?).map .int
  | .tup xs, .int i => (ixOf xs.length i).bind fun j => xs[j]?
  | .lst xs, .int i => (ixOf xs.length i).bind fun j => xs[j]?
  | .str x, .int i => if x.length ≤ big then (ixOf x.cps.toList.length i).bind fun j => (x.cps.toList[j]?).map fun c => .str ⟨#[c]⟩ else none
  | .dic ks vs, k => if iKey k then (keyIx k ks).bind fun j => vs[j]? else none
  | _, _ => none
def lstV (xs : List I) : V := .lst (xs.map .im)
def iBin : BOp → I → I → Option V
  | .add, .int a, .int b => some (.im (.int (a + b)))
  | .add, .str a, .str b => if a.length + b.length ≤ big then some (.im (.str (a ++ b))) else none
  | .add, .tup a, .tup b => if a.length + b.length ≤ big then some (.im (.tup (a ++ b))) else none
  | .add, .lst a, .lst b => if a.length + b.length ≤ big then some (lstV (a ++ b)) else none
  | .sub, .int a, .int b => some (.im (.int (a - b)))
  | .mul, .int a, .int b => if mulOk a b then some (.im (.int (a * b))) else none
  | .mul, .lst xs, .int k => if k < 1000 ∧ -1000 < k ∧ xs.length ≤ 1000 then some (lstV (List.replicate k.toNat xs).flatten) else none
  | .mul, .str x, .int k => if k < 1000 ∧ -1000 < k ∧ x.length ≤ 1000 then some (.im (.str ⟨(List.replicate k.toNat x.cps.toList).flatten.toArray⟩)) else none
  | .fdiv, .int a, .int b => if 0 < b ∧ b ≤ 1000000000000000000000000000000000000000000000000000000000000 then some (.im (.int (a / b))) else none
  | .mod, .int a, .int b => if 0 < b then some (.im (.int (a % b))) else none
  | .pow, .int a, .int b => if 0 ≤ b ∧ b ≤ 1000000 ∧ a.natAbs < 2 ^ 64 then some (.im (.int (a ^ b.toNat))) else none
  | _, _, _ => none
def iSlice (a : I) (lo hi : Option Int) : Option V := match a with
  | .tup xs => some (.im (.tup (cut xs lo hi)))
  | .lst xs => some (lstV (cut xs lo hi))
  | .str x => if x.length ≤ big then some (.im (.str ⟨(cut x.cps.toList lo hi).toArray⟩)) else none
  | _ => none
def iRev : I → Option V
  | .tup xs => some (.im (.tup xs.reverse))
  | .lst xs => some (lstV xs.reverse)
  | _ => none
def iTy (sub : Str → Str → Bool) : I → Ty → Option Bool
  | .fl _, _ => none
  | .exc C _ _, .cls D => some (sub C D)
  | .exc _ _ _, _ => none
  | .ins C _ _, .cls D => some (sub C D)
  | .ins _ _ _, _ => none
  | .bl _, .int => some true
  | .bl _, .bool => some true
  | .int _, .int => some true
  | .str _, .str => some true
  | .tup _, .tuple => some true
  | .lst _, .list => some true
  | .dic _ _, .dict => some true
  | _, _ => some false
def iItems : I → Option (List I)
  | .tup xs => some xs
  | .lst xs => some xs
  | _ => none
def iBools : List I → Option (List Bool)
  | [] => some []
  | .bl b :: r => (iBools r).map fun bs => b :: bs
  | _ => none
def iInts : List I → Option (List Int)
  | [] => some []
  | .int i :: r => (iInts r).map fun is => i :: is
  | _ => none
def iStrs : List I → Option (List Str)
  | [] => some []
  | .str i :: r => (iStrs r).map fun is => i :: is
  | _ => none
/-- put into a dict -/
def putV {α : Type} (k : I) (v : α) (d : List I × List α) : List I × List α := match keyIx k d.1 with
  | some j => (d.1, d.2.set j v)
  | none => (d.1 ++ [k], d.2 ++ [v])
/-- a dict of pairs -/
def iPairs (d : List I × List I) : List I → Option (List I × List I)
  | [] => some d
  | .tup [k, v] :: r => if iKey k then iPairs (putV k v d) r else none
  | _ => none
def vPairs (d : List I × List V) : List V → Option (List I × List V)
  | [] => some d
  | .im k :: v :: r => if iKey k then vPairs (putV k v d) r else none
  | _ => none
def dicV (d : List I × List I) : V := .dic d.1 (d.2.map .im)
def iZip : List I → List I → List I
  | x :: xs, y :: ys => .tup [x, y] :: iZip xs ys
  | _, _ => []
def iBi (f : Bi) (args : List I) : Option V := match f, args with
  | .len, [.str x] => if x.length ≤ big then some (.im (.int x.length)) else none
  | .len, [.tup xs] => some (.im (.int xs.length))
  | .len, [.fl xs] => some (.im (.int xs.length))
  | .len, [.lst xs] => some (.im (.int xs.length))
  | .len, [.dic ks _] => some (.im (.int ks.length))
  | .list, [x] => (iItems x).map lstV
  | .tuple, [x] => (iItems x).map fun xs => .im (.tup xs)
  | .int, [.int i] => some (.im (.int i))
  | .int, [.bl b] => some (.im (.int (if b then 1 else 0)))
  | .max, [.int i, .int j] => some (.im (.int (if j > i then j else i)))
  | .min, [.int i, .int j] => some (.im (.int (if j < i then j else i)))
  | .all, [.lst xs] => (iBools xs).map fun bs => .im (.bl (bs.all id))
  | .any, [.lst xs] => (iBools xs).map fun bs => .im (.bl (bs.any id))
  | .sum, [.lst xs] => (iInts xs).map fun is => .im (.int is.sum)
  | .maxl, [.lst xs] => (match iInts xs with
    | some (i :: is) => some (.im (.int (is.foldl (fun a b => if b > a then b else a) i)))
    | _ => none)
  | .minl, [.lst xs] => (match iInts xs with
    | some (i :: is) => some (.im (.int (is.foldl (fun a b => if b < a then b else a) i)))
    | _ => none)
  | .dict, [.lst xs] => (iPairs ([], []) xs).map dicV
  | .dict, [.dic ks vs] => some (dicV (ks, vs))
  | .lenset, [.lst ys] => (match iStrs ys with
    | some xs => if xs.length ≤ 1000 then some (.im (.int (dcount [] xs : Nat))) else none
    | none => none)
  | .sortset, [x] => ((iItems x).bind iStrs).map fun xs => lstV ((sortStr xs.eraseDups).map .str)
  | .sorted, [.lst xs] => (iStrs xs).map fun xs => lstV ((sortStr xs).map .str)
  | .sorted, [.dic ks _] => (iStrs ks).map fun xs => lstV ((sortStr xs).map .str)
  | .zipl, [x, y] => (match iItems x, iItems y with
    | some xs, some ys => some (lstV (iZip xs ys))
    | _, _ => none)
  | .zipd, [x, y] => (match iItems x, iItems y with
    | some xs, some ys => (iPairs ([], []) (iZip xs ys)).map dicV
    | _, _ => none)
  | _, _ => none
def iCount (v : I) : List I → Option Nat
  | [] => some 0
  | y :: ys => match iEq y v, iCount v ys with
    | some b, some k => some (if b then k + 1 else k)
    | _, _ => none
def iIndex (v : I) : List I → Option Nat
  | [] => none
  | y :: ys => match iEq y v with
    | some true => some 0
    | some false => (iIndex v ys).map (· + 1)
    | none => none
/-- methods that change nothing -/
def iBm (m : Bm) (o : I) (args : List I) : Option I := match m, o, args with
  | .count, .lst xs, [v] => (iCount v xs).map fun (k : Nat) => .int (k : Int)
  | .index, .lst xs, [v] => (iIndex v xs).map fun (k : Nat) => .int (k : Int)
  | .get, .dic ks vs, [k, d] => if iKey k then some (((keyIx k ks).bind fun j => vs[j]?).getD d) else none
  | _, _, _ => none
/-- methods that change what one alone holds: what it holds then, and what is told -/
def vBm (m : Bm) (o : V) (args : List V) : Option (V × V) := match m, o, args with
  | .append, .obj .lst xs, [v] => if xs.length < big then some (.lst (xs ++ [v]), .im .non) else none
  | .extend, .obj .lst xs, [v] => (match v.flat with
    | some (.lst ys) => if xs.length + ys.length ≤ big then some (.lst (xs ++ ys.map .im), .im .non) else none
    | _ => none)
  | .pop, .obj .lst xs, [] => (match xs[xs.length - 1]? with
    | some y => some (.lst xs.dropLast, y)
    | none => none)
  | .clear, .obj .lst _, [] => some (.lst [], .im .non)
  | .reverse, .obj .lst xs, [] => some (.lst xs.reverse, .im .non)
  | .popAt, .obj .lst xs, [.im (.int i)] => (match ixOf xs.length i with
    | some k => (match xs[k]? with
      | some y => some (.lst (xs.eraseIdx k), y)
      | none => none)
    | none => none)
  | .insert, .obj .lst xs, [.im (.int i), v] => if xs.length < big ∧ 0 ≤ i ∧ i ≤ xs.length then some (.lst (xs.take i.toNat ++ v :: xs.drop i.toNat), .im .non) else none
  | .count, o, [.im v] => o.flat.bind fun x => (iBm .count x [v]).map fun r => (o, .im r)
  | .index, o, [.im v] => o.flat.bind fun x => (iBm .index x [v]).map fun r => (o, .im r)
  | .get, o, [.im k, .im d] => o.flat.bind fun x => (iBm .get x [k, d]).map fun r => (o, .im r)
  | _, _, _ => none
/-- the receiver is of the method's kind -/
def vBmOk (m : Bm) (o : V) : Bool := match o with
  | .obj .lst _ => m != .get && m != .dpop
  | .im (.lst _) => m != .get && m != .dpop
  | .obj (.dic _) _ => m == .get || m == .dpop
  | .im (.dic _ _) => m == .get || m == .dpop
  | _ => false

/-! ### what an expression comes to -/
structure VC where
  call : Str → List V → RO
  make : Str → List V → RO
  meth : Str → Str → List V → RO
  /-- which arguments are handed over and come back -/
  io : Str → List Bool
  ioM : Str → Str → List Bool
  glo : Str → Option I
  wf : Nat
  sub : Str → Str → Bool
  exc : Str → Option (Option Str)
  /-- names that are never put anew -/
  pin : List Bool

mutual
/-- calls nothing, changes nothing -/
def still : Ex → Bool
  | .var _ => true
  | .int _ => true
  | .str _ => true
  | .bl _ => true
  | .non => true
  | .glo _ => true
  | .bin _ a b => still a && still b
  | .neg a => still a
  | .cmp _ a b => still a && still b
  | .tup es => stills es
  | .lst es => stills es
  | .idx a b => still a && still b
  | .fld a _ => still a
  | .bi .len es => stills es
  | _ => false
def stills : Exs → Bool
  | .nil => true
  | .cons e es => still e && stills es
end

def stillO : Ox → Bool
  | .none => true
  | .some e => still e
/-- an index that needs nothing done -/
def sEv (c : VC) (E : VE) : Ex → Option I
  | .var i => match E[i]? with
    | some (.im x) => some x
    | _ => none
  | .int i => some (.int i)
  | .str x => some (.str x)
  | .glo x => c.glo x
  | .neg a => match sEv c E a with
    | some (.int i) => some (.int (-i))
    | _ => none
  | .bin .sub a b => match sEv c E a, sEv c E b with
    | some (.int i), some (.int j) => some (.int (i - j))
    | _, _ => none
  | .bin .add a b => match sEv c E a, sEv c E b with
    | some (.int i), some (.int j) => some (.int (i + j))
    | _, _ => none
  | .idx a b => match sEv c E a, sEv c E b with
    | some x, some y => iIdx x y
    | _, _ => none
  | _ => none
/-- a place's child -/
def stepIx (v : V) (k : I) : Option Nat := match v, k with
  | .obj .lst vs, .int i => ixOf vs.length i
  | .tup vs, .int i => ixOf vs.length i
  | .obj (.dic ks) _, k => if iKey k then keyIx k ks else none
  | _, _ => none
/-- the place of an expression that is one -/
def plc (c : VC) (E : VE) : Ex → Option (Nat × List Nat)
  | .var i => some (i, [])
  | .fld a f => match plc c E a with
    | some (i, js) => (match peekE E i js with
      | some (.obj (.ins _ fs) _) => (fldIx f fs).map fun j => (i, js ++ [j])
      | _ => none)
    | none => none
  | .idx a b => match plc c E a, sEv c E b with
    | some (i, js), some k => (match peekE E i js with
      | some v => (stepIx v k).map fun j => (i, js ++ [j])
      | none => none)
    | _, _ => none
  | _ => none
/-- read a place: from then on it stands still -/
def rd (E : VE) (i : Nat) (js : List Nat) : R V := match peekE E i js with
  | some (.im x) => .ok (.im x) E
  | some v => (match v.freeze with
    | some x => .ok (.im x) (pokeE E i js (.im x))
    | none => .bad)
  | none => .bad
/-- take what a place holds -/
def take (E : VE) (i : Nat) (js : List Nat) : R V := match peekE E i js with
  | some (.im x) => .ok (.im x) E
  | some .gone => .bad
  | some v => .ok v (pokeE E i js .gone)
  | none => .bad
/-- look at a place; st: what comes behind changes nothing -/
def view (pl : Option (Nat × List Nat)) (st : Bool) (E : VE) (k : R V) : R V := match pl with
  | some (i, js) => (match peekE E i js with
    | some (.im x) => .ok (.im x) E
    | some .gone => .bad
    | some v => if st then .ok v E else .bad
    | none => .bad)
  | none => k
def liftV {α : Type} (E : VE) : Option α → R α
  | some a => .ok a E
  | none => .bad
def liftT (E : VE) : Option Bool → R V
  | some b => .ok (.im (.bl b)) E
  | none => .bad
def op1 {α : Type} (f : I → Option α) (x : V) : Option α := match x.flat with
  | some a => f a
  | none => none
def op2 {α : Type} (f : I → I → Option α) (x y : V) : Option α := match x.flat, y.flat with
  | some a, some b => f a b
  | _, _ => none
/-- an argument: a value, or a name that is handed over -/
inductive Arg where
  | v (v : V)
  | ln (i : Nat)
/-- the names are handed over -/
def lend : List Arg → VE → Option (List V × VE)
  | [], E => some ([], E)
  | .v v :: as, E => (lend as E).map fun p => (v :: p.1, p.2)
  | .ln i :: as, E => match E[i]? with
    | some (.im x) => (lend as E).map fun p => (.im x :: p.1, p.2)
    | some .gone => none
    | some v => (lend as (E.set i .gone)).map fun p => (v :: p.1, p.2)
    | none => none
/-- and come back -/
def back : List Arg → List V → VE → VE
  | .ln i :: as, o :: os, E => back as os (E.set i o)
  | .v _ :: as, _ :: os, E => back as os E
  | _, _, E => E
def backR (as : List Arg) (E : VE) : RO → R V
  | .ok v outs => .ok v (back as outs E)
  | .err C fs vs outs => .err C fs vs (back as outs E)
  | .bad => .bad
def doCall (as : List Arg) (E : VE) (f : List V → RO) : R V := match lend as E with
  | some (vs, E1) => backR as E1 (f vs)
  | none => .bad
def isGone (E : VE) (i : Nat) : Bool := match E[i]? with
  | some .gone => true
  | none => true
  | _ => false
def ioAt : List Bool → Bool
  | b :: _ => b
  | [] => false
/-- the class of what a receiver holds -/
def clsOf : V → Option (Str × List Str)
  | .obj (.ins C fs) _ => some (C, fs)
  | .im (.ins C fs _) => some (C, fs)
  | _ => none

def isVar : Ex → Option Nat
  | .var i => some i
  | _ => none
/-- a receiver: a name is handed over -/
def recv (i : Option Nat) (E : VE) (r : R V) : R (Arg × V) := match i with
  | some i => (match E[i]? with
    | some .gone => .bad
    | some v => .ok (.ln i, v) E
    | none => .bad)
  | none => r.bind fun v E1 => .ok (.v v, v) E1

def vSetTg (pin : List Bool) (g : Tg) (v : V) (E : VE) : Option VE := match g with
  | .nm i => if pin.getD i false then none else some (E.set i v)
  | .tup is => match v with
    | .im (.tup xs) => setAll is (xs.map .im) E
    | .tup vs => setAll is vs E
    | _ => none
where setAll : List Nat → List V → VE → Option VE
  | [], [], E => some E
  | i :: is, x :: xs, E => if pin.getD i false then none else setAll is xs (E.set i x)
  | _, _, _ => none
/-- the names of a target, as they were -/
def unTg (g : Tg) (E0 E : VE) : VE := match g with
  | .nm i => E.set i (E0.getD i .gone)
  | .tup is => is.foldl (fun E i => E.set i (E0.getD i .gone)) E
/-- the names of a target hold nothing of one's own -/
def tgFree (g : Tg) (E : VE) : Bool := match g with
  | .nm i => free1 E i
  | .tup is => is.all (free1 E)
where free1 (E : VE) (i : Nat) : Bool := match E[i]? with
  | some (.im _) => true
  | some .gone => true
  | _ => false
def tgSlots : Tg → List Nat
  | .nm i => [i]
  | .tup is => is
def iEnum (k : Nat) : List I → List I
  | [] => []
  | x :: xs => .tup [.int (k : Int), x] :: iEnum (k + 1) xs
def iRange (lo hi : Int) : List I := (List.range (hi - lo).toNat).map fun (k : Nat) => .int (lo + (k : Int))
def iRangeC (lo : Int) (c : Int) (n : Nat) : List I := (List.range n).map fun (k : Nat) => .int (lo + (k : Int) * c)
def iSigns (x : Str) : List I := x.cps.toList.map fun c => .str ⟨#[c]⟩
def iWalk : I → Option (List I)
  | .tup xs => some xs
  | .lst xs => some xs
  | .str x => some (iSigns x)
  | _ => none

/-- a comprehension over a name that holds a list of one's own: which, and what lies in it -/
def lockV (i : Nat) : Option V → Option (Nat × List V × List I)
  | some (.obj .lst vs) => (ims vs).map fun xs => (i, vs, xs)
  | _ => none
def lockOf (g : Tg) : Ix → VE → Option (Nat × List V × List I)
  | .of (.var i), E => if i ∈ tgSlots g then none else lockV i E[i]?
  | _, _ => none
/-- the turns of a list comprehension -/
def vlcGo (step : I → VE → R (Option V)) : List I → List V → VE → R (List V)
  | [], acc, E => .ok acc E
  | x :: xs, acc, E => if acc.length < big then (match step x E with
      | .ok (some y) E1 => vlcGo step xs (acc ++ [y]) E1
      | .ok none E1 => vlcGo step xs acc E1
      | _ => .bad) else .bad

mutual
def vE (c : VC) : Ex → VE → R V
  | .var i, E => rd E i []
  | .mov e, E => (match plc c E e with
    | some (i, js) => take E i js
    | none => .bad)
  | .int i, E => .ok (.im (.int i)) E
  | .str x, E => .ok (.im (.str x)) E
  | .bl b, E => .ok (.im (.bl b)) E
  | .non, E => .ok (.im .non) E
  | .glo x, E => liftV E ((c.glo x).map .im)
  | .bin op a b, E => (vE c a E).bind fun x E1 => (vE c b E1).bind fun y E2 => liftV E2 (op2 (iBin op) x y)
  | .neg a, E => (vE c a E).bind fun x E1 => (match x with
    | .im (.int i) => .ok (.im (.int (-i))) E1
    | _ => .bad)
  | .cmp op a b, E => (view (plc c E a) (still b) E (vE c a E)).bind fun x E1 => (view (plc c E1 b) true E1 (vE c b E1)).bind fun y E2 => liftT E2 (op2 (iCmp op) x y)
  | .chain o p a b d, E => (vE c a E).bind fun x E1 => (vE c b E1).bind fun y E2 => (liftV E2 (op2 (iCmp o) x y)).bind fun k E3 =>
      if k = true then (vE c d E3).bind fun z E4 => liftT E4 (op2 (iCmp p) y z) else .ok (.im (.bl false)) E3
  | .and_ a b, E => (vE c a E).bind fun x E1 => (match x with
    | .im (.bl true) => vE c b E1
    | .im (.bl false) => .ok (.im (.bl false)) E1
    | _ => .bad)
  | .or_ a b, E => (vE c a E).bind fun x E1 => (match x with
    | .im (.bl true) => .ok (.im (.bl true)) E1
    | .im (.bl false) => vE c b E1
    | _ => .bad)
  | .not_ a, E => (vE c a E).bind fun x E1 => (match x with
    | .im (.bl b) => .ok (.im (.bl (!b))) E1
    | _ => .bad)
  | .ite t a b, E => (vT c t E).bind fun k E1 => if k = true then vE c a E1 else vE c b E1
  | .tup es, E => (vEs c es E).bind fun vs E1 => if vs.length ≤ big then .ok (mkTup vs) E1 else .bad
  | .lst es, E => (vEs c es E).bind fun vs E1 => if vs.length ≤ big then .ok (.lst vs) E1 else .bad
  | .dic es, E => match vEs c es E with
    | .ok vs E1 => (match vPairs ([], []) vs with
      | some d => if vs.length ≤ 30 then .ok (.dic d.1 d.2) E1 else .bad
      | none => .bad)
    | _ => .bad
  | .idx a b, E => (match plc c E (.idx a b) with
    | some (i, js) => rd E i js
    | none => (match isVar a with
      | some i => if isGone E i then .bad else (vE c b E).bind fun y E1 => (view (some (i, [])) true E1 .bad).bind fun x E2 => liftV E2 ((op2 iIdx x y).map .im)
      | none => (view (plc c E a) (still b) E (vE c a E)).bind fun x E1 => (vE c b E1).bind fun y E2 => liftV E2 ((op2 iIdx x y).map .im)))
  | .slice a lo hi, E => (view (plc c E a) (stillO lo && stillO hi) E (vE c a E)).bind fun x E1 => (vO c lo E1).bind fun l E2 => (vO c hi E2).bind fun h E3 => liftV E3 (op1 (fun x => iSlice x l h) x)
  | .rev a, E => (view (plc c E a) true E (vE c a E)).bind fun x E1 => liftV E1 (op1 iRev x)
  | .fld a f, E => (match plc c E (.fld a f) with
    | some (i, js) => rd E i js
    | none => (view (plc c E a) true E (vE c a E)).bind fun x E1 => (match x with
      | .im (.ins _ fs vs) => liftV E1 (((fldIx f fs).bind fun j => vs[j]?).map .im)
      | .im (.exc _ fs vs) => liftV E1 (((fldIx f fs).bind fun j => vs[j]?).map .im)
      | .obj (.ins _ fs) vs => liftV E1 ((fldIx f fs).bind fun j => vs[j]?)
      | _ => .bad))
  | .call f es, E => (vAs c (c.io f) es E).bind fun as E1 => doCall as E1 (c.call f)
  | .mk C es, E => (vAs c (c.ioM C "__init__").tail es E).bind fun as E1 => doCall as E1 (c.make C)
  | .meth o m es, E => (recv (isVar o) E (vE c o E)).bind fun ov E1 => (match clsOf ov.2 with
    | some (C, fs) => if m ∈ fs then .bad else (vAs c (c.ioM C m).tail es E1).bind fun as E2 => doCall (ov.1 :: as) E2 (c.meth C m)
    | none => .bad)
  | .bi f es, E => (vB c es E).bind fun xs E1 => (match xs with
    | [x] => liftV E1 (op1 (fun x => iBi f [x]) x)
    | [x, y] => liftV E1 (op2 (fun x y => iBi f [x, y]) x y)
    | _ => .bad)
  | .bm m o es, E => (match plc c E o with
    | some (i, js) => (match peekE E i js with
      | some o0 => if vBmOk m o0 && (js.isEmpty || stills es) then (vEs c es E).bind fun vs E1 => (match peekE E1 i js with
        | some o1 => (match vBm m o1 vs with
          | some (o2, r) => .ok r (pokeE E1 i js o2)
          | none => .bad)
        | none => .bad) else .bad
      | none => .bad)
    | none => (vE c o E).bind fun o1 E1 => if vBmOk m o1 then (vEs c es E1).bind fun vs E2 => (match vBm m o1 vs with
      | some (_, r) => .ok r E2
      | none => .bad) else .bad)
  | .isi a t, E => (view (plc c E a) true E (vE c a E)).bind fun x E1 => liftT E1 (op1 (fun x => iTy c.sub x t) x)
  | .lc elt g it cond, E => (match lockOf g it E with
    | some (i, vs, xs) => (vlcGo (fun x E => match (if tgFree g E then vSetTg [] g (.im x) E else none) with
      | some E1 => (vC c cond E1).bind fun k E2 => if k = true then (vE c elt E2).bind fun y E3 => .ok (some y) (unTg g E E3) else .ok none (unTg g E E2)
      | none => .bad) xs [] (E.set i .gone)).bind fun ys E2 => .ok (.lst ys) (E2.set i (.lst vs))
    | none => (vI c it E).bind fun xs E1 => (vlcGo (fun x E => match (if tgFree g E then vSetTg [] g (.im x) E else none) with
      | some E1 => (vC c cond E1).bind fun k E2 => if k = true then (vE c elt E2).bind fun y E3 => .ok (some y) (unTg g E E3) else .ok none (unTg g E E2)
      | none => .bad) xs [] E1).bind fun ys E2 => .ok (.lst ys) E2)
/-- as a test -/
def vT (c : VC) : Ex → VE → R Bool
  | .and_ a b, E => (vT c a E).bind fun k E1 => if k = true then vT c b E1 else .ok false E1
  | .or_ a b, E => (vT c a E).bind fun k E1 => if k = true then .ok true E1 else vT c b E1
  | .not_ a, E => (vT c a E).bind fun k E1 => .ok (!k) E1
  | .var i, E => (view (some (i, [])) true E .bad).bind fun x E1 => liftV E1 (op1 iTruth x)
  | .cmp op a b, E => (view (plc c E a) (still b) E (vE c a E)).bind fun x E1 => (view (plc c E1 b) true E1 (vE c b E1)).bind fun y E2 => liftV E2 (op2 (iCmp op) x y)
  | .chain o p a b d, E => (vE c a E).bind fun x E1 => (vE c b E1).bind fun y E2 => (liftV E2 (op2 (iCmp o) x y)).bind fun k E3 =>
      if k = true then (vE c d E3).bind fun z E4 => liftV E4 (op2 (iCmp p) y z) else .ok false E3
  | .call f es, E => ((vAs c (c.io f) es E).bind fun as E1 => doCall as E1 (c.call f)).bind fun x E2 => liftV E2 (op1 iTruth x)
  | .isi a t, E => (view (plc c E a) true E (vE c a E)).bind fun x E1 => liftV E1 (op1 (fun x => iTy c.sub x t) x)
  | .bi f es, E => ((vB c es E).bind fun xs E1 => (match xs with
    | [x] => liftV E1 (op1 (fun x => iBi f [x]) x)
    | [x, y] => liftV E1 (op2 (fun x y => iBi f [x, y]) x y)
    | _ => .bad)).bind fun x E2 => liftV E2 (op1 iTruth x)
  | .idx a b, E => (match plc c E (.idx a b) with
    | some (i, js) => rd E i js
    | none => (match isVar a with
      | some i => if isGone E i then .bad else (vE c b E).bind fun y E1 => (view (some (i, [])) true E1 .bad).bind fun x E2 => liftV E2 ((op2 iIdx x y).map .im)
      | none => (view (plc c E a) (still b) E (vE c a E)).bind fun x E1 => (vE c b E1).bind fun y E2 => liftV E2 ((op2 iIdx x y).map .im))).bind fun x E2 => liftV E2 (op1 iTruth x)
  | .meth o m es, E => ((recv (isVar o) E (vE c o E)).bind fun ov E1 => (match clsOf ov.2 with
    | some (C, fs) => if m ∈ fs then .bad else (vAs c (c.ioM C m).tail es E1).bind fun as E2 => doCall (ov.1 :: as) E2 (c.meth C m)
    | none => .bad)).bind fun x E2 => liftV E2 (op1 iTruth x)
  | _, _ => .bad
def vEs (c : VC) : Exs → VE → R (List V)
  | .nil, E => .ok [] E
  | .cons e es, E => (vE c e E).bind fun x E1 => (vEs c es E1).bind fun xs E2 => .ok (x :: xs) E2
/-- arguments of a built-in: one alone is looked at -/
def vB (c : VC) : Exs → VE → R (List V)
  | .nil, E => .ok [] E
  | .cons a .nil, E => (view (plc c E a) true E (vE c a E)).bind fun x E1 => .ok [x] E1
  | .cons a es, E => (vE c a E).bind fun x E1 => (vB c es E1).bind fun xs E2 => .ok (x :: xs) E2
/-- arguments of a call -/
def vAs (c : VC) : List Bool → Exs → VE → R (List Arg)
  | _, .nil, E => .ok [] E
  | io, .cons e es, E => (match isVar e, ioAt io with
    | some i, true => if isGone E i then .bad else (vAs c io.tail es E).bind fun as E1 => .ok (.ln i :: as) E1
    | none, true => (vE c e E).bind fun x E1 => (vAs c io.tail es E1).bind fun as E2 => .ok (.v x :: as) E2
    | _, false => ((vE c e E).bind fun x E1 => liftV E1 (x.freeze.map .im)).bind fun x E1 => (vAs c io.tail es E1).bind fun as E2 => .ok (.v x :: as) E2)
def vO (c : VC) : Ox → VE → R (Option Int)
  | .none, E => .ok none E
  | .some e, E => (vE c e E).bind fun x E1 => (match x with
    | .im (.int i) => .ok (some i) E1
    | _ => .bad)
def vC (c : VC) : Ox → VE → R Bool
  | .none, E => .ok true E
  | .some e, E => vT c e E
def vI (c : VC) : Ix → VE → R (List I)
  | .of e, E => (vE c e E).bind fun x E1 => liftV E1 (x.freeze.bind iWalk)
  | .rng1 a, E => (vE c a E).bind fun x E1 => (match x with
    | .im (.int i) => if inBound i then .ok (iRange 0 i) E1 else .bad
    | _ => .bad)
  | .rng2 a b, E => (vE c a E).bind fun x E1 => (vE c b E1).bind fun y E2 => (match x, y with
    | .im (.int i), .im (.int j) => if inBound i && inBound j then .ok (iRange i j) E2 else .bad
    | _, _ => .bad)
  | .rng3 a b d, E => (vE c a E).bind fun x E1 => (vE c b E1).bind fun y E2 => (vE c d E2).bind fun z E3 => (match x, y, z with
    | .im (.int i), .im (.int j), .im (.int s) => if inBound i && inBound j && decide (0 < s) && decide (s < 1000000) then .ok (iRangeC i s ((j - i + s - 1) / s).toNat) E3 else if inBound i && inBound j && decide (s = -1) then .ok (iRangeC i (-1) (i - j).toNat) E3 else .bad
    | _, _, _ => .bad)
  | .enum e, E => (vE c e E).bind fun x E1 => liftV E1 ((x.freeze.bind iItems).map (iEnum 0))
  | .zip _ _, _ => .bad
end

/-- how a statement ends -/
inductive VFl where
  | nx
  | rt (v : V)
  | bk
  | ct
def vforGo (step : I → VE → R VFl) : List I → VE → R VFl
  | [], E => .ok .nx E
  | x :: xs, E => (step x E).bind fun fl E1 => (match fl with
      | .nx => vforGo step xs E1
      | .ct => vforGo step xs E1
      | .bk => .ok .nx E1
      | .rt v => .ok (.rt v) E1)
def vwhileGo (test : VE → R Bool) (step : VE → R VFl) : Nat → VE → R VFl
  | 0, _ => .bad
  | n + 1, E => (test E).bind fun k E1 => if k = true then (step E1).bind fun fl E2 => (match fl with
      | .nx => vwhileGo test step n E2
      | .ct => vwhileGo test step n E2
      | .bk => .ok .nx E2
      | .rt v => .ok (.rt v) E2) else .ok .nx E1
def killAll (is : List Nat) (E : VE) : VE := is.foldl (fun E i => E.set i .gone) E
/-- put at a place: a list's item, a dict's -/
def vSet (o : V) (k : I) (v : V) : Option V := match o, k with
  | .obj .lst vs, .int i => (ixOf vs.length i).map fun j => .lst (vs.set j v)
  | .obj (.dic ks) vs, k => if iKey k && decide (ks.length < big) then some (let d := putV k v (ks, vs); .dic d.1 d.2) else none
  | _, _ => none
def vSetF (o : V) (f : Str) (v : V) : Option V := match o with
  | .obj (.ins C fs) vs => some (match fldIx f fs with
    | some j => .ins C fs (vs.set j v)
    | none => .ins C (fs ++ [f]) (vs ++ [v]))
  | _ => none

mutual
def vS (c : VC) : S → VE → R VFl
  | .asg i e, E => (vE c e E).bind fun x E1 => if c.pin.getD i false then .bad else .ok .nx (E1.set i x)
  | .unp is e, E => (vE c e E).bind fun x E1 => (match vSetTg c.pin (.tup is) x E1 with
    | some E2 => .ok .nx E2
    | none => .bad)
  | .seti o i e, E => (vE c e E).bind fun v E1 => (match plc c E1 o, sEv c E1 i with
    | some (n, js), some k => (match peekE E1 n js with
      | some o1 => (match vSet o1 k v with
        | some o2 => .ok .nx (pokeE E1 n js o2)
        | none => .bad)
      | none => .bad)
    | _, _ => .bad)
  | .setf o f e, E => (vE c e E).bind fun v E1 => (match plc c E1 o with
    | some (n, js) => (match peekE E1 n js with
      | some o1 => (match vSetF o1 f v with
        | some o2 => .ok .nx (pokeE E1 n js o2)
        | none => .bad)
      | none => .bad)
    | none => .bad)
  | .nev, _ => .bad
  | .ex e, E => (vE c e E).bind fun _ E1 => .ok .nx E1
  | .ret e, E => (vE c e E).bind fun x E1 => .ok (.rt x) E1
  | .retN, E => .ok (.rt (.im .non)) E
  | .pass, E => .ok .nx E
  | .brk, E => .ok .bk E
  | .cont, E => .ok .ct E
  | .ifs t a b, E => (vT c t E).bind fun k E1 => if k = true then vSs c a E1 else vSs c b E1
  | .whl t b, E => vwhileGo (fun E => vT c t E) (fun E => vSs c b E) c.wf E
  | .for_ g it b, E => (vI c it E).bind fun xs E1 => vforGo (fun x E => match vSetTg c.pin g (.im x) E with
      | some E1 => vSs c b E1
      | none => .bad) xs E1
  | .kill is, E => .ok .nx (killAll is E)
  | .rai C es, E => (vEs c es E).bind fun vs E1 => (match c.exc C, vs with
    | some none, _ => .err C [] [] E1
    | some (some f), [v] => (match v.freeze with
      | some x => .err C [f] [x] E1
      | none => .bad)
    | _, _ => .bad)
  | .tr i e hs, E => match vE c e E with
    | .ok x E1 => (match i with
      | some j => if c.pin.getD j false then .bad else .ok .nx (E1.set j x)
      | none => .ok .nx E1)
    | .err C fs vs E1 => vHs c hs C fs vs E1
    | .bad => .bad
def vHs (c : VC) : Hs → Str → List Str → List I → VE → R VFl
  | .nil, C, fs, vs, E => .err C fs vs E
  | .cons D i b hs, C, fs, vs, E => if c.sub C D = true then (match i with
      | some j => if c.pin.getD j false then .bad else (vSs c b (E.set j (.im (.exc C fs vs)))).bind fun fl E1 => .ok fl (E1.set j .gone)
      | none => vSs c b E) else vHs c hs C fs vs E
def vSs (c : VC) : Ss → VE → R VFl
  | .nil, E => .ok .nx E
  | .cons s ss, E => (vS c s E).bind fun fl E1 => (match fl with
    | .nx => vSs c ss E1
    | fl => .ok fl E1)
end

/-! ### a program -/
structure VTbl where
  T : Tbl
  io : List (Str × List Bool)
  ioM : List (Str × List (Str × List Bool))
  glo : List (Str × I)
def outsOf : List Bool → Nat → VE → List V
  | _, 0, _ => []
  | io, n + 1, v :: E => (if ioAt io then v else .gone) :: outsOf io.tail n E
  | _, _, [] => []
def vRun (c : VC) (f : Fn) (io : List Bool) (args : List V) : RO :=
  if args.length = f.np then (match vSs { c with pin := io } f.body (args ++ List.replicate (f.names.length - args.length) .gone) with
    | .ok (.rt v) E => .ok v (outsOf io f.np E)
    | .ok .nx E => .ok (.im .non) (outsOf io f.np E)
    | .err C fs vs E => .err C fs vs (outsOf io f.np E)
    | _ => .bad) else .bad
def VTbl.ioOf (T : VTbl) (f : Str) : List Bool := (T.io.lookup f).getD []
def VTbl.ioMOf (T : VTbl) (C m : Str) : List Bool := (((T.ioM.lookup C).bind fun ms => ms.lookup m)).getD []
def vMake (meth : Str → Str → List V → RO) (C : Str) (args : List V) : RO := match meth C "__init__" (.ins C [] [] :: args) with
  | .ok (.im .non) (.obj (.ins D fs) vs :: outs) => .ok (.ins D fs vs) outs
  | .err D fs vs (_ :: outs) => .err D fs vs outs
  | _ => .bad
def vctx (T : VTbl) (wf : Nat) : Nat → VC
  | 0 => ⟨fun _ _ => .bad, fun _ _ => .bad, fun _ _ _ => .bad, T.ioOf, T.ioMOf, fun x => T.glo.lookup x, wf, T.T.sub, fun C => T.T.excs.lookup C, []⟩
  | k + 1 => {
    call := fun f args => match T.T.fn.lookup f with
      | some fn => vRun (vctx T wf k) fn (T.ioOf f) args
      | none => .bad
    make := fun C args => match T.T.meths.lookup C with
      | some _ => vMake (vctx T wf k).meth C args
      | none => .bad
    meth := fun C m args => match (T.T.meths.lookup C).bind fun ms => ms.lookup m with
      | some fn => vRun (vctx T wf k) fn (T.ioMOf C m) args
      | none => .bad
    io := T.ioOf
    ioM := T.ioMOf
    glo := fun x => T.glo.lookup x
    wf := wf
    sub := T.T.sub
    exc := fun C => T.T.excs.lookup C
    pin := [] }
end Wn
end
section
/-! Vs1: what values without places have to do with the store. -/
namespace Wn
open PySem
abbrev FP := Nat → Prop

def keyPV : I → PV
  | .int i => .int i
  | .str x => .str x
  | _ => .non
def objOf : Knd → List PV → MO
  | .lst, ps => .lst ps
  | .dic ks, ps => .dic ((ks.map keyPV).zip ps)
  | .ins C fs, ps => .ins C (fs.zip ps)
def Knd.ok : Knd → Nat → Prop
  | .lst, _ => True
  | .dic ks, n => ks.length = n ∧ ks.Nodup ∧ ∀ k ∈ ks, iKey k = true
  | .ins _ fs, n => fs.length = n ∧ fs.Nodup

mutual
def RI (M : Store) (Sh : FP) : I → PV → Prop
  | .non, p => p = .non
  | .bl b, p => p = .bl b
  | .int i, p => p = .int i
  | .str x, p => p = .str x
  | .fl xs, p => p = .fl xs
  | .tup xs, p => ∃ ps, p = .tup ps ∧ RIs M Sh xs ps
  | .lst xs, p => ∃ n ps, p = .loc n ∧ Sh n ∧ M[n]? = some (objOf .lst ps) ∧ RIs M Sh xs ps
  | .dic ks xs, p => ∃ n ps, p = .loc n ∧ Sh n ∧ M[n]? = some (objOf (.dic ks) ps) ∧ Knd.ok (.dic ks) ps.length ∧ RIs M Sh xs ps
  | .ins C fs xs, p => ∃ n ps, p = .loc n ∧ Sh n ∧ M[n]? = some (objOf (.ins C fs) ps) ∧ Knd.ok (.ins C fs) ps.length ∧ RIs M Sh xs ps
  | .exc C fs xs, p => ∃ ps, p = .exc C fs ps ∧ fs.length = xs.length ∧ RIs M Sh xs ps
def RIs (M : Store) (Sh : FP) : List I → List PV → Prop
  | [], ps => ps = []
  | x :: xs, ps => ∃ p qs, ps = p :: qs ∧ RI M Sh x p ∧ RIs M Sh xs qs
end
mutual
def RV (M : Store) (Sh : FP) : V → PV → FP → Prop
  | .im x, p, F => RI M Sh x p ∧ ∀ n, ¬ F n
  | .gone, _, F => ∀ n, ¬ F n
  | .tup vs, p, F => ∃ ps, p = .tup ps ∧ RVs M Sh vs ps F
  | .obj k vs, p, F => ∃ n ps G, p = .loc n ∧ M[n]? = some (objOf k ps) ∧ k.ok ps.length ∧ RVs M Sh vs ps G ∧ ¬ G n ∧ ∀ m, F m ↔ (m = n ∨ G m)
def RVs (M : Store) (Sh : FP) : List V → List PV → FP → Prop
  | [], ps, F => ps = [] ∧ ∀ n, ¬ F n
  | v :: vs, ps, F => ∃ p qs A B, ps = p :: qs ∧ RV M Sh v p A ∧ RVs M Sh vs qs B ∧ (∀ n, A n → ¬ B n) ∧ ∀ n, F n ↔ (A n ∨ B n)
end
/-- what lies right in it stands still -/
def RF (M : Store) (Sh : FP) : I → PV → Prop
  | .lst xs, p => ∃ n ps, p = .loc n ∧ M[n]? = some (objOf .lst ps) ∧ RIs M Sh xs ps
  | .dic ks xs, p => ∃ n ps, p = .loc n ∧ M[n]? = some (objOf (.dic ks) ps) ∧ Knd.ok (.dic ks) ps.length ∧ RIs M Sh xs ps
  | .ins C fs xs, p => ∃ n ps, p = .loc n ∧ M[n]? = some (objOf (.ins C fs) ps) ∧ Knd.ok (.ins C fs) ps.length ∧ RIs M Sh xs ps
  | x, p => RI M Sh x p

/-! ### it stays so -/
mutual
theorem RI.mono {M M' : Store} {Sh Sh' : FP} (h : ∀ n, Sh n → Sh' n ∧ M'[n]? = M[n]?) : ∀ {x : I} {p : PV}, RI M Sh x p → RI M' Sh' x p
  | .non, _, r => r
  | .bl _, _, r => r
  | .int _, _, r => r
  | .str _, _, r => r
  | .fl _, _, r => r
  | .tup xs, _, r => by
    obtain ⟨ps, e, r⟩ := r
    exact ⟨ps, e, RIs.mono h r⟩
  | .lst xs, _, r => by
    obtain ⟨n, ps, e, s, m, r⟩ := r
    exact ⟨n, ps, e, (h n s).1, (h n s).2.trans m, RIs.mono h r⟩
  | .dic ks xs, _, r => by
    obtain ⟨n, ps, e, s, m, o, r⟩ := r
    exact ⟨n, ps, e, (h n s).1, (h n s).2.trans m, o, RIs.mono h r⟩
  | .ins C fs xs, _, r => by
    obtain ⟨n, ps, e, s, m, o, r⟩ := r
    exact ⟨n, ps, e, (h n s).1, (h n s).2.trans m, o, RIs.mono h r⟩
  | .exc C fs xs, _, r => by
    obtain ⟨ps, e, l, r⟩ := r
    exact ⟨ps, e, l, RIs.mono h r⟩
theorem RIs.mono {M M' : Store} {Sh Sh' : FP} (h : ∀ n, Sh n → Sh' n ∧ M'[n]? = M[n]?) : ∀ {xs : List I} {ps : List PV}, RIs M Sh xs ps → RIs M' Sh' xs ps
  | [], _, r => r
  | x :: xs, _, r => by
    obtain ⟨p, qs, e, r, rs⟩ := r
    exact ⟨p, qs, e, RI.mono h r, RIs.mono h rs⟩
end
mutual
theorem RV.mono {M M' : Store} {Sh Sh' : FP} (h : ∀ n, Sh n → Sh' n ∧ M'[n]? = M[n]?) : ∀ {v : V} {p : PV} {F : FP}, (∀ n, F n → M'[n]? = M[n]?) → RV M Sh v p F → RV M' Sh' v p F
  | .im x, _, _, _, r => ⟨RI.mono h r.1, r.2⟩
  | .gone, _, _, _, r => r
  | .tup vs, _, _, g, r => by
    obtain ⟨ps, e, r⟩ := r
    exact ⟨ps, e, RVs.mono h g r⟩
  | .obj k vs, _, _, g, r => by
    obtain ⟨n, ps, G, e, m, o, r, d, f⟩ := r
    exact ⟨n, ps, G, e, (g n ((f n).2 (.inl rfl))).trans m, o, RVs.mono h (fun m hm => g m ((f m).2 (.inr hm))) r, d, f⟩
theorem RVs.mono {M M' : Store} {Sh Sh' : FP} (h : ∀ n, Sh n → Sh' n ∧ M'[n]? = M[n]?) : ∀ {vs : List V} {ps : List PV} {F : FP}, (∀ n, F n → M'[n]? = M[n]?) → RVs M Sh vs ps F → RVs M' Sh' vs ps F
  | [], _, _, _, r => r
  | v :: vs, _, _, g, r => by
    obtain ⟨p, qs, A, B, e, r, rs, d, f⟩ := r
    exact ⟨p, qs, A, B, e, RV.mono h (fun n hn => g n ((f n).2 (.inl hn))) r, RVs.mono h (fun n hn => g n ((f n).2 (.inr hn))) rs, d, f⟩
end
theorem RF.mono {M M' : Store} {Sh Sh' : FP} (h : ∀ n, Sh n → Sh' n) (g : ∀ n, n < M.length → M'[n]? = M[n]?) (l : ∀ n, Sh n → n < M.length) {x : I} {p : PV} (r : RF M Sh x p) : RF M' Sh' x p := by
  have hh : ∀ n, Sh n → Sh' n ∧ M'[n]? = M[n]? := fun n s => ⟨h n s, g n (l n s)⟩
  have lt : ∀ {n : Nat} {o : MO}, M[n]? = some o → n < M.length := fun e => (List.getElem?_eq_some_iff.1 e).1
  cases x with
  | lst xs => obtain ⟨n, ps, e, m, r⟩ := r; exact ⟨n, ps, e, (g n (lt m)).trans m, r.mono hh⟩
  | dic ks xs => obtain ⟨n, ps, e, m, o, r⟩ := r; exact ⟨n, ps, e, (g n (lt m)).trans m, o, r.mono hh⟩
  | ins C fs xs => obtain ⟨n, ps, e, m, o, r⟩ := r; exact ⟨n, ps, e, (g n (lt m)).trans m, o, r.mono hh⟩
  | _ => exact RI.mono hh r
theorem RV.iff {M : Store} {Sh : FP} : ∀ {v : V} {p : PV} {F G : FP}, (∀ n, F n ↔ G n) → RV M Sh v p F → RV M Sh v p G := by
  intro v p F G h r
  have : F = G := funext fun n => propext (h n)
  rw [← this]; exact r
theorem RVs.iff {M : Store} {Sh : FP} : ∀ {v : List V} {p : List PV} {F G : FP}, (∀ n, F n ↔ G n) → RVs M Sh v p F → RVs M Sh v p G := by
  intro v p F G h r
  have : F = G := funext fun n => propext (h n)
  rw [← this]; exact r

/-! ### lists of them -/
theorem RIs.length {M : Store} {Sh : FP} : ∀ {xs : List I} {ps : List PV}, RIs M Sh xs ps → ps.length = xs.length
  | [], _, r => by rw [show _ = [] from r]; rfl
  | x :: xs, _, ⟨p, qs, e, _, rs⟩ => by rw [e, List.length_cons, List.length_cons, rs.length]
theorem RVs.length {M : Store} {Sh : FP} : ∀ {xs : List V} {ps : List PV} {F : FP}, RVs M Sh xs ps F → ps.length = xs.length
  | [], _, _, r => by rw [r.1]; rfl
  | x :: xs, _, _, ⟨p, qs, _, _, e, _, rs, _⟩ => by rw [e, List.length_cons, List.length_cons, rs.length]
theorem RIs.get {M : Store} {Sh : FP} : ∀ {xs : List I} {ps : List PV} {j : Nat} {x : I}, RIs M Sh xs ps → xs[j]? = some x → ∃ p, ps[j]? = some p ∧ RI M Sh x p
  | x :: xs, _, 0, y, ⟨p, qs, e, r, _⟩, h => by
    simp at h; subst h; exact ⟨p, by rw [e]; rfl, r⟩
  | x :: xs, _, j + 1, y, ⟨p, qs, e, _, rs⟩, h => by
    obtain ⟨q, h1, h2⟩ := rs.get (j := j) (by simpa using h)
    exact ⟨q, by rw [e]; simpa using h1, h2⟩
theorem RIs.append {M : Store} {Sh : FP} : ∀ {xs ys : List I} {ps qs : List PV}, RIs M Sh xs ps → RIs M Sh ys qs → RIs M Sh (xs ++ ys) (ps ++ qs)
  | [], _, _, _, r, s => by rw [show _ = [] from r]; exact s
  | x :: xs, _, _, _, ⟨p, qs, e, r, rs⟩, s => by
    rw [e]; exact ⟨p, _, rfl, r, rs.append s⟩
theorem RIs.append_inv {M : Store} {Sh : FP} : ∀ {xs ys : List I} {ps : List PV}, RIs M Sh (xs ++ ys) ps → ∃ qs rs, ps = qs ++ rs ∧ RIs M Sh xs qs ∧ RIs M Sh ys rs
  | [], _, ps, r => ⟨[], ps, rfl, rfl, r⟩
  | x :: xs, ys, _, ⟨p, qs, e, r, rs⟩ => by
    obtain ⟨as, bs, e1, r1, r2⟩ := rs.append_inv (xs := xs) (ys := ys)
    exact ⟨p :: as, bs, by rw [e, e1]; rfl, ⟨p, as, rfl, r, r1⟩, r2⟩
theorem RIs.take {M : Store} {Sh : FP} {xs : List I} {ps : List PV} (n : Nat) (r : RIs M Sh xs ps) : RIs M Sh (xs.take n) (ps.take n) := by
  rw [← List.take_append_drop n xs] at r
  obtain ⟨as, bs, e, r1, r2⟩ := r.append_inv
  have l := r1.length
  have : ps.take n = as := by
    rw [e, List.take_append]
    have : as.length ≤ n := by rw [l]; simp; omega
    rw [List.take_of_length_le this]
    by_cases h : n ≤ xs.length
    · rw [show n - as.length = 0 by rw [l]; simp; omega]; simp
    · have h2 := r2.length
      have : bs = [] := List.length_eq_zero_iff.1 (by rw [h2]; simp; omega)
      rw [this]; simp
  rw [this]; exact r1
theorem RIs.drop {M : Store} {Sh : FP} : ∀ {xs : List I} {ps : List PV} (n : Nat), RIs M Sh xs ps → RIs M Sh (xs.drop n) (ps.drop n)
  | _, _, 0, r => by simpa using r
  | [], _, n + 1, r => by rw [show _ = [] from r]; simp [RIs]
  | x :: xs, _, n + 1, ⟨p, qs, e, _, rs⟩ => by rw [e]; simpa using rs.drop n
theorem RIs.reverse {M : Store} {Sh : FP} : ∀ {xs : List I} {ps : List PV}, RIs M Sh xs ps → RIs M Sh xs.reverse ps.reverse
  | [], _, r => by rw [show _ = [] from r]; rfl
  | x :: xs, _, ⟨p, qs, e, r, rs⟩ => by
    rw [e, List.reverse_cons, List.reverse_cons]
    exact rs.reverse.append ⟨p, [], rfl, r, rfl⟩
theorem RVs.ims {M : Store} {Sh : FP} : ∀ {vs : List V} {ps : List PV} {F : FP} {xs : List I}, RVs M Sh vs ps F → ims vs = some xs → RIs M Sh xs ps ∧ ∀ n, ¬ F n
  | [], _, _, _, r, h => by cases h; exact r
  | .im x :: vs, _, F, xs, ⟨p, qs, A, B, e, r, rs, d, f⟩, h => by
    simp only [Wn.ims] at h
    cases hv : Wn.ims vs with
    | none => rw [hv] at h; cases h
    | some ys =>
      rw [hv] at h; cases h
      obtain ⟨r1, r2⟩ := rs.ims hv
      exact ⟨⟨p, qs, e, r.1, r1⟩, fun n hn => ((f n).1 hn).elim (r.2 n) (r2 n)⟩
  | .tup _ :: _, _, _, _, _, h => by cases h
  | .obj _ _ :: _, _, _, _, _, h => by cases h
  | .gone :: _, _, _, _, _, h => by cases h
theorem RVs.of_ims {M : Store} {Sh : FP} : ∀ {xs : List I} {ps : List PV} {F : FP}, RIs M Sh xs ps → (∀ n, ¬ F n) → RVs M Sh (xs.map .im) ps F
  | [], _, _, r, h => ⟨r, h⟩
  | x :: xs, _, F, ⟨p, qs, e, r, rs⟩, h => ⟨p, qs, F, F, e, ⟨r, h⟩, RVs.of_ims rs h, fun n hn => (h n hn).elim, fun n => ⟨fun g => .inl g, fun g => g.elim id id⟩⟩
/-! ### standing still -/
mutual
theorem RV.freeze {M : Store} {Sh : FP} : ∀ {v : V} {p : PV} {F : FP} {x : I}, RV M Sh v p F → v.freeze = some x → RI M (fun n => Sh n ∨ F n) x p
  | .im y, _, F, x, r, h => by
    cases h
    exact r.1.mono fun n s => ⟨.inl s, rfl⟩
  | .gone, _, _, _, _, h => by cases h
  | .tup vs, _, F, x, ⟨ps, e, r⟩, h => by
    simp only [V.freeze] at h
    cases hv : V.freezes vs with
    | none => rw [hv] at h; cases h
    | some ys => rw [hv] at h; cases h; exact ⟨ps, e, RVs.freezes r hv⟩
  | .obj k vs, _, F, x, ⟨n, ps, G, e, m, o, r, d, f⟩, h => by
    simp only [V.freeze] at h
    cases hv : V.freezes vs with
    | none => rw [hv] at h; cases h
    | some ys =>
      rw [hv] at h; cases h
      have rs := (RVs.freezes r hv).mono (Sh' := fun n => Sh n ∨ F n) (M' := M) fun n s => ⟨s.elim .inl fun g => .inr ((f n).2 (.inr g)), rfl⟩
      have hn : Sh n ∨ F n := .inr ((f n).2 (.inl rfl))
      cases k with
      | lst => exact ⟨n, ps, e, hn, m, rs⟩
      | dic ks => exact ⟨n, ps, e, hn, m, o, rs⟩
      | ins C fs => exact ⟨n, ps, e, hn, m, o, rs⟩
theorem RVs.freezes {M : Store} {Sh : FP} : ∀ {vs : List V} {ps : List PV} {F : FP} {xs : List I}, RVs M Sh vs ps F → V.freezes vs = some xs → RIs M (fun n => Sh n ∨ F n) xs ps
  | [], _, _, _, r, h => by cases h; exact r.1
  | v :: vs, _, F, xs, ⟨p, qs, A, B, e, r, rs, d, f⟩, h => by
    simp only [V.freezes] at h
    cases h1 : V.freeze v with
    | none => rw [h1] at h; cases h
    | some x =>
      rw [h1] at h
      cases h2 : V.freezes vs with
      | none => simp only [h2] at h; cases h
      | some ys =>
        simp only [h2] at h; cases h
        exact ⟨p, qs, e, (RV.freeze r h1).mono fun n s => ⟨s.elim .inl fun g => .inr ((f n).2 (.inl g)), rfl⟩, (RVs.freezes rs h2).mono fun n s => ⟨s.elim .inl fun g => .inr ((f n).2 (.inr g)), rfl⟩⟩
end
theorem RI.rf {M : Store} {Sh : FP} {x : I} {p : PV} (r : RI M Sh x p) : RF M Sh x p := by
  cases x with
  | lst xs => obtain ⟨n, ps, e, _, r⟩ := r; exact ⟨n, ps, e, r⟩
  | dic ks xs => obtain ⟨n, ps, e, _, r⟩ := r; exact ⟨n, ps, e, r⟩
  | ins C fs xs => obtain ⟨n, ps, e, _, r⟩ := r; exact ⟨n, ps, e, r⟩
  | _ => exact r
theorem RV.rf {M : Store} {Sh : FP} {v : V} {p : PV} {F : FP} {x : I} (r : RV M Sh v p F) (h : v.flat = some x) : RF M Sh x p := by
  cases v with
  | im y => cases h; exact r.1.rf
  | gone => cases h
  | tup vs =>
    obtain ⟨ps, e, r⟩ := r
    simp only [V.flat] at h
    cases hv : ims vs with
    | none => rw [hv] at h; cases h
    | some ys => rw [hv] at h; cases h; exact ⟨ps, e, (r.ims hv).1⟩
  | obj k vs =>
    obtain ⟨n, ps, G, e, m, o, r, d, f⟩ := r
    simp only [V.flat] at h
    cases hv : ims vs with
    | none => rw [hv] at h; cases h
    | some ys =>
      rw [hv] at h; cases h
      have rs := (r.ims hv).1
      cases k with
      | lst => exact ⟨n, ps, e, m, rs⟩
      | dic ks => exact ⟨n, ps, e, m, o, rs⟩
      | ins C fs => exact ⟨n, ps, e, m, o, rs⟩

/-! ### a state, and how it goes on -/
structure Ok (M : Store) (Sh F : FP) : Prop where
  lt : ∀ n, F n → n < M.length
  ns : ∀ n, F n → ¬ Sh n
  sl : ∀ n, Sh n → n < M.length
structure Stp (M : Store) (Sh F : FP) (M' : Store) (Sh' F' : FP) : Prop where
  len : M.length ≤ M'.length
  old : ∀ n, n < M.length → ¬ F n → M'[n]? = M[n]?
  up : ∀ n, Sh n → Sh' n
  dn : ∀ n, n < M.length → Sh' n → Sh n ∨ F n
  fp : ∀ n, F' n → n < M.length → F n
  ok : Ok M' Sh' F'
theorem Ok.sub {M : Store} {Sh F G : FP} (h : Ok M Sh F) (g : ∀ n, G n → F n) : Ok M Sh G := ⟨fun n x => h.lt n (g n x), fun n x => h.ns n (g n x), h.sl⟩
theorem Stp.refl {M : Store} {Sh F : FP} (h : Ok M Sh F) : Stp M Sh F M Sh F := ⟨Nat.le_refl _, fun _ _ _ => rfl, fun _ s => s, fun _ _ s => .inl s, fun _ s _ => s, h⟩
/-- what stands apart stays -/
theorem Stp.kept {M M' : Store} {Sh Sh' F F' : FP} (s : Stp M Sh F M' Sh' F') (o : Ok M Sh F) : ∀ n, Sh n → Sh' n ∧ M'[n]? = M[n]? :=
  fun n h => ⟨s.up n h, s.old n (o.sl n h) fun f => o.ns n f h⟩
theorem Stp.rv {M M' : Store} {Sh Sh' F F' G : FP} (s : Stp M Sh F M' Sh' F') (o : Ok M Sh F) (g : Ok M Sh G) (d : ∀ n, G n → ¬ F n) {v : V} {p : PV} (r : RV M Sh v p G) : RV M' Sh' v p G :=
  r.mono (s.kept o) fun n h => s.old n (g.lt n h) (d n h)
theorem Stp.rvs {M M' : Store} {Sh Sh' F F' G : FP} (s : Stp M Sh F M' Sh' F') (o : Ok M Sh F) (g : Ok M Sh G) (d : ∀ n, G n → ¬ F n) {v : List V} {p : List PV} (r : RVs M Sh v p G) : RVs M' Sh' v p G :=
  r.mono (s.kept o) fun n h => s.old n (g.lt n h) (d n h)
theorem Stp.ri {M M' : Store} {Sh Sh' F F' : FP} (s : Stp M Sh F M' Sh' F') (o : Ok M Sh F) {v : I} {p : PV} (r : RI M Sh v p) : RI M' Sh' v p := r.mono (s.kept o)
theorem Stp.dis {M M' : Store} {Sh Sh' F F' G : FP} (s : Stp M Sh F M' Sh' F') (g : Ok M Sh G) (d : ∀ n, G n → ¬ F n) : ∀ n, G n → ¬ F' n :=
  fun n h f => d n h (s.fp n f (g.lt n h))
theorem Stp.gok {M M' : Store} {Sh Sh' F F' G : FP} (s : Stp M Sh F M' Sh' F') (g : Ok M Sh G) (d : ∀ n, G n → ¬ F n) : Ok M' Sh' G :=
  ⟨fun n h => Nat.lt_of_lt_of_le (g.lt n h) s.len, fun n h h' => (s.dn n (g.lt n h) h').elim (g.ns n h) (d n h), s.ok.sl⟩
/-- two steps, the second one with a part alone -/
theorem Stp.seq {M M1 M2 : Store} {Sh Sh1 Sh2 F F1 A B G C : FP} (s : Stp M Sh F M1 Sh1 F1) (t : Stp M1 Sh1 A M2 Sh2 B) (hA : ∀ n, A n → F1 n) (hG : ∀ n, G n → F1 n ∧ ¬ A n) (hC : ∀ n, C n → G n ∨ B n) : Stp M Sh F M2 Sh2 C where
  len := Nat.le_trans s.len t.len
  old n hn hf := (t.old n (Nat.lt_of_lt_of_le hn s.len) fun a => hf (s.fp n (hA n a) hn)).trans (s.old n hn hf)
  up n h := t.up n (s.up n h)
  dn n hn h := (t.dn n (Nat.lt_of_lt_of_le hn s.len) h).elim (s.dn n hn) fun a => .inr (s.fp n (hA n a) hn)
  fp n hc hn := (hC n hc).elim (fun g => s.fp n (hG n g).1 hn) fun b => s.fp n (hA n (t.fp n b (Nat.lt_of_lt_of_le hn s.len))) hn
  ok := ⟨fun n hc => (hC n hc).elim (fun g => Nat.lt_of_lt_of_le (s.ok.lt n (hG n g).1) t.len) (t.ok.lt n),
    fun n hc h => (hC n hc).elim (fun g => (t.dn n (s.ok.lt n (hG n g).1) h).elim (s.ok.ns n (hG n g).1) (hG n g).2) fun b => t.ok.ns n b h, t.ok.sl⟩
theorem Stp.drop {M M1 : Store} {Sh Sh1 F F1 G : FP} (s : Stp M Sh F M1 Sh1 F1) (h : ∀ n, G n → F1 n) : Stp M Sh F M1 Sh1 G :=
  ⟨s.len, s.old, s.up, s.dn, fun n g => s.fp n (h n g), s.ok.sub h⟩
/-- a new object -/
theorem Stp.new {M : Store} {Sh F : FP} (o : Ok M Sh F) (os : MO) {G : FP} (hG : ∀ n, G n → F n ∨ n = M.length) : Stp M Sh F (M ++ [os]) Sh G where
  len := by simp
  old n hn _ := by rw [List.getElem?_append_left hn]
  up _ h := h
  dn _ _ h := .inl h
  fp n g hn := (hG n g).elim id fun e => by omega
  ok := ⟨fun n g => (hG n g).elim (fun f => by have := o.lt n f; simp; omega) (fun e => by simp [e]), fun n g s => (hG n g).elim (fun f => o.ns n f s) (fun e => by have := o.sl n s; omega), fun n s => by have := o.sl n s; simp; omega⟩
/-- what one holds stands still from now on -/
theorem Stp.frz {M : Store} {Sh F : FP} (o : Ok M Sh F) {A G : FP} (hA : ∀ n, A n → F n) (hG : ∀ n, G n → F n ∧ ¬ A n) : Stp M Sh F M (fun n => Sh n ∨ A n) G where
  len := Nat.le_refl _
  old _ _ _ := rfl
  up _ h := .inl h
  dn n _ h := h.elim .inl fun a => .inr (hA n a)
  fp n g _ := (hG n g).1
  ok := ⟨fun n g => o.lt n (hG n g).1, fun n g s => s.elim (o.ns n (hG n g).1) (hG n g).2, fun n s => s.elim (o.sl n) fun a => o.lt n (hA n a)⟩
/-- one place of what one holds is written -/
theorem Stp.put {M : Store} {Sh F : FP} (o : Ok M Sh F) {n : Nat} (hn : F n) (ob : MO) {G : FP} (hG : ∀ n, G n → F n) : Stp M Sh F (M.set n ob) Sh G where
  len := by simp
  old m hm hf := by rw [List.getElem?_set_ne]; intro e; subst e; exact hf hn
  up _ h := h
  dn _ _ h := .inl h
  fp m g _ := hG m g
  ok := ⟨fun m g => by simpa using o.lt m (hG m g), fun m g => o.ns m (hG m g), fun m s => by simpa using o.sl m s⟩

/-! ### children -/
def kidsP (M : Store) : PV → Option (List PV)
  | .tup ps => some ps
  | .loc n => match M[n]? with
    | some (.lst ps) => some ps
    | some (.dic kvs) => some (kvs.map (·.2))
    | some (.ins _ fs) => some (fs.map (·.2))
    | none => none
  | _ => none
def atP (M : Store) (p : PV) : List Nat → Option PV
  | [] => some p
  | j :: js => match kidsP M p with
    | some ps => (match ps[j]? with
      | some q => atP M q js
      | none => none)
    | none => none
theorem kids_obj {k : Knd} {ps : List PV} (h : k.ok ps.length) : (match objOf k ps with
    | .lst ps => some ps
    | .dic kvs => some (kvs.map (·.2))
    | .ins _ fs => some (fs.map (·.2))) = some ps := by
  cases k with
  | lst => rfl
  | dic ks =>
    simp only [objOf]
    congr 1
    exact List.map_snd_zip (by rw [List.length_map, h.1]; exact Nat.le_refl _)
  | ins C fs =>
    simp only [objOf]
    congr 1
    exact List.map_snd_zip (by rw [h.1]; exact Nat.le_refl _)
theorem kids_loc {M : Store} {n : Nat} {k : Knd} {ps : List PV} (m : M[n]? = some (objOf k ps)) (h : k.ok ps.length) : kidsP M (.loc n) = some ps := by
  have := kids_obj h
  simp only [kidsP, m]
  cases e : objOf k ps <;> rw [e] at this <;> exact this
theorem RVs.at {M : Store} {Sh : FP} : ∀ {vs : List V} {ps : List PV} {F : FP} {j : Nat} {v : V}, RVs M Sh vs ps F → vs[j]? = some v → ∃ (p : PV) (A B : FP), ps[j]? = some p ∧ RV M Sh v p A ∧ (∀ n, A n → ¬ B n) ∧ (∀ n, F n ↔ (A n ∨ B n)) ∧
    ∀ (M' : Store) (Sh' : FP) (v' : V) (p' : PV) (A' : FP), (∀ n, Sh n → Sh' n ∧ M'[n]? = M[n]?) → (∀ n, B n → M'[n]? = M[n]?) → RV M' Sh' v' p' A' → (∀ n, A' n → ¬ B n) → RVs M' Sh' (vs.set j v') (ps.set j p') (fun n => A' n ∨ B n)
  | v :: vs, _, F, 0, w, ⟨p, qs, A, B, e, r, rs, d, f⟩, h => by
    simp at h; subst h
    refine ⟨p, A, B, by rw [e]; rfl, r, d, f, fun M' Sh' v' p' A' h1 h2 r' d' => ?_⟩
    rw [e]
    exact ⟨p', qs, A', B, rfl, r', rs.mono h1 h2, d', fun n => Iff.rfl⟩
  | v :: vs, _, F, j + 1, w, ⟨p, qs, A, B, e, r, rs, d, f⟩, h => by
    obtain ⟨q, C, D, e1, r1, d1, f1, k1⟩ := rs.at (j := j) (by simpa using h)
    refine ⟨q, C, fun n => A n ∨ D n, by rw [e]; simpa using e1, r1, fun n c => ?_, fun n => ?_, fun M' Sh' v' p' A' h1 h2 r' d' => ?_⟩
    · intro x
      rcases x with x | x
      · exact d n x ((f1 n).2 (.inl c))
      · exact d1 n c x
    · rw [f n, f1 n]
      constructor
      · rintro (x | x | x)
        · exact .inr (.inl x)
        · exact .inl x
        · exact .inr (.inr x)
      · rintro (x | x | x)
        · exact .inr (.inl x)
        · exact .inl x
        · exact .inr (.inr x)
    · rw [e]
      refine ⟨p, qs.set j p', A, fun n => A' n ∨ D n, rfl, r.mono h1 fun n a => h2 n (.inl a), k1 M' Sh' v' p' A' h1 (fun n x => h2 n (.inr x)) r' (fun n x y => d' n x (.inr y)), ?_, fun n => ?_⟩
      · rintro n a (x | x)
        · exact d' n x (.inl a)
        · exact d n a ((f1 n).2 (.inr x))
      · constructor
        · rintro (x | x | x)
          · exact .inr (.inl x)
          · exact .inl x
          · exact .inr (.inr x)
        · rintro (x | x | x)
          · exact .inr (.inl x)
          · exact .inl x
          · exact .inr (.inr x)
theorem set_same {α : Type} {l : List α} {j : Nat} {x : α} (h : l[j]? = some x) : l.set j x = l := by
  obtain ⟨hl, e⟩ := List.getElem?_eq_some_iff.1 h
  rw [← e]; exact List.set_getElem_self hl
/-- a place within: what stands there, and what may be put there -/
theorem RV.at {M : Store} {Sh : FP} : ∀ (js : List Nat) {v : V} {p : PV} {F : FP} {w : V}, RV M Sh v p F → v.peek js = some w → ∃ (q : PV) (A B : FP), atP M p js = some q ∧ RV M Sh w q A ∧ (∀ n, A n → ¬ B n) ∧ (∀ n, F n ↔ (A n ∨ B n)) ∧
    ∀ (M' : Store) (Sh' : FP) (w' : V) (A' : FP), (∀ n, Sh n → Sh' n ∧ M'[n]? = M[n]?) → (∀ n, B n → M'[n]? = M[n]?) → RV M' Sh' w' q A' → (∀ n, A' n → ¬ B n) → RV M' Sh' (v.poke w' js) p (fun n => A' n ∨ B n)
  | [], v, p, F, w, r, h => by
    simp only [V.peek, Option.some.injEq] at h
    subst h
    refine ⟨p, F, fun _ => False, rfl, r, fun _ _ x => x, fun n => ⟨.inl, fun x => x.elim id False.elim⟩, fun M' Sh' w' A' _ _ r' _ => ?_⟩
    exact r'.iff fun n => ⟨.inl, fun x => x.elim id False.elim⟩
  | j :: js, v, p, F, w, r, h => by
    cases v with
    | im x => simp [V.peek, V.kids] at h
    | gone => simp [V.peek, V.kids] at h
    | tup vs =>
      obtain ⟨ps, e, rs⟩ := r
      simp only [V.peek, V.kids] at h
      cases hj : vs[j]? with
      | none => rw [hj] at h; cases h
      | some u =>
        rw [hj] at h
        obtain ⟨q, A, B, e1, r1, d1, f1, k1⟩ := rs.at hj
        obtain ⟨q2, A2, B2, e2, r2, d2, f2, k2⟩ := RV.at js r1 h
        refine ⟨q2, A2, fun n => B2 n ∨ B n, ?_, r2, ?_, ?_, ?_⟩
        · rw [e]; simp only [atP, kidsP, e1]; exact e2
        · rintro n a (x | x)
          · exact d2 n a x
          · exact d1 n ((f2 n).2 (.inl a)) x
        · intro n; rw [f1 n, f2 n, or_assoc]
        · intro M' Sh' w' A' h1 h2 r' d'
          have k3 := k2 M' Sh' w' A' h1 (fun n x => h2 n (.inl x)) r' (fun n x y => d' n x (.inl y))
          have k4 := k1 M' Sh' _ q _ h1 (fun n x => h2 n (.inr x)) k3 (fun n x y => x.elim (fun x => d' n x (.inr y)) fun x => d1 n ((f2 n).2 (.inr x)) y)
          rw [set_same e1] at k4
          simp only [V.poke, V.kids, hj, V.with]
          exact ⟨ps, e, k4.iff fun n => or_assoc⟩
    | obj k vs =>
      obtain ⟨n0, ps, G, e, m, o, rs, d, f⟩ := r
      simp only [V.peek, V.kids] at h
      cases hj : vs[j]? with
      | none => rw [hj] at h; cases h
      | some u =>
        rw [hj] at h
        obtain ⟨q, A, B, e1, r1, d1, f1, k1⟩ := rs.at hj
        obtain ⟨q2, A2, B2, e2, r2, d2, f2, k2⟩ := RV.at js r1 h
        refine ⟨q2, A2, fun n => n = n0 ∨ B2 n ∨ B n, ?_, r2, ?_, ?_, ?_⟩
        · rw [e]; simp only [atP, kids_loc m o, e1]; exact e2
        · rintro n a (x | x | x)
          · subst x; exact d ((f1 n).2 (.inl ((f2 n).2 (.inl a))))
          · exact d2 n a x
          · exact d1 n ((f2 n).2 (.inl a)) x
        · intro n; rw [f n, f1 n, f2 n]
          constructor
          · rintro (x | (x | x) | x)
            · exact .inr (.inl x)
            · exact .inl x
            · exact .inr (.inr (.inl x))
            · exact .inr (.inr (.inr x))
          · rintro (x | x | x | x)
            · exact .inr (.inl (.inl x))
            · exact .inl x
            · exact .inr (.inl (.inr x))
            · exact .inr (.inr x)
        · intro M' Sh' w' A' h1 h2 r' d'
          have k3 := k2 M' Sh' w' A' h1 (fun n x => h2 n (.inr (.inl x))) r' (fun n x y => d' n x (.inr (.inl y)))
          have k4 := k1 M' Sh' _ q _ h1 (fun n x => h2 n (.inr (.inr x))) k3 (fun n x y => x.elim (fun x => d' n x (.inr (.inr y))) fun x => d1 n ((f2 n).2 (.inr x)) y)
          rw [set_same e1] at k4
          simp only [V.poke, V.kids, hj, V.with]
          refine ⟨n0, ps, _, e, (h2 n0 (.inl rfl)).trans m, o, k4, ?_, fun n => ?_⟩
          · rintro ((x | x) | x)
            · exact d' n0 x (.inl rfl)
            · exact d ((f1 n0).2 (.inl ((f2 n0).2 (.inr x))))
            · exact d ((f1 n0).2 (.inr x))
          · constructor
            · rintro (x | x | x | x)
              · exact .inr (.inl (.inl x))
              · exact .inl x
              · exact .inr (.inl (.inr x))
              · exact .inr (.inr x)
            · rintro (x | (x | x) | x)
              · exact .inr (.inl x)
              · exact .inl x
              · exact .inr (.inr (.inl x))
              · exact .inr (.inr (.inr x))

/-! ### names -/
def RS (M : Store) (Sh : FP) (v : V) (o : Option PV) (A : FP) : Prop := (v = .gone ∧ ∀ n, ¬ A n) ∨ ∃ p, o = some p ∧ RV M Sh v p A
def RE (M : Store) (Sh : FP) : VE → Env → FP → Prop
  | [], es, F => es = [] ∧ ∀ n, ¬ F n
  | v :: vs, es, F => ∃ o os A B, es = o :: os ∧ RS M Sh v o A ∧ RE M Sh vs os B ∧ (∀ n, A n → ¬ B n) ∧ ∀ n, F n ↔ (A n ∨ B n)
theorem RS.mono {M M' : Store} {Sh Sh' : FP} (h : ∀ n, Sh n → Sh' n ∧ M'[n]? = M[n]?) {v : V} {o : Option PV} {F : FP} (g : ∀ n, F n → M'[n]? = M[n]?) (r : RS M Sh v o F) : RS M' Sh' v o F :=
  r.elim .inl fun ⟨p, e, r⟩ => .inr ⟨p, e, r.mono h g⟩
theorem RE.mono {M M' : Store} {Sh Sh' : FP} (h : ∀ n, Sh n → Sh' n ∧ M'[n]? = M[n]?) : ∀ {vs : VE} {os : Env} {F : FP}, (∀ n, F n → M'[n]? = M[n]?) → RE M Sh vs os F → RE M' Sh' vs os F
  | [], _, _, _, r => r
  | v :: vs, _, _, g, ⟨o, os, A, B, e, r, rs, d, f⟩ => ⟨o, os, A, B, e, r.mono h (fun n a => g n ((f n).2 (.inl a))), rs.mono h (fun n a => g n ((f n).2 (.inr a))), d, f⟩
theorem RE.iff {M : Store} {Sh : FP} {v : VE} {p : Env} {F G : FP} (h : ∀ n, F n ↔ G n) (r : RE M Sh v p F) : RE M Sh v p G := by
  have : F = G := funext fun n => propext (h n)
  rw [← this]; exact r
theorem RE.length {M : Store} {Sh : FP} : ∀ {vs : VE} {os : Env} {F : FP}, RE M Sh vs os F → os.length = vs.length
  | [], _, _, r => by rw [r.1]; rfl
  | v :: vs, _, _, ⟨o, os, A, B, e, r, rs, d, f⟩ => by rw [e, List.length_cons, List.length_cons, rs.length]
theorem RE.at {M : Store} {Sh : FP} : ∀ {vs : VE} {os : Env} {F : FP} {j : Nat} {v : V}, RE M Sh vs os F → vs[j]? = some v → ∃ (o : Option PV) (A B : FP), os[j]? = some o ∧ RS M Sh v o A ∧ (∀ n, A n → ¬ B n) ∧ (∀ n, F n ↔ (A n ∨ B n)) ∧
    ∀ (M' : Store) (Sh' : FP) (v' : V) (o' : Option PV) (A' : FP), (∀ n, Sh n → Sh' n ∧ M'[n]? = M[n]?) → (∀ n, B n → M'[n]? = M[n]?) → RS M' Sh' v' o' A' → (∀ n, A' n → ¬ B n) → RE M' Sh' (vs.set j v') (os.set j o') (fun n => A' n ∨ B n)
  | v :: vs, _, F, 0, w, ⟨p, qs, A, B, e, r, rs, d, f⟩, h => by
    simp at h; subst h
    refine ⟨p, A, B, by rw [e]; rfl, r, d, f, fun M' Sh' v' p' A' h1 h2 r' d' => ?_⟩
    rw [e]
    exact ⟨p', qs, A', B, rfl, r', rs.mono h1 h2, d', fun n => Iff.rfl⟩
  | v :: vs, _, F, j + 1, w, ⟨p, qs, A, B, e, r, rs, d, f⟩, h => by
    obtain ⟨q, C, D, e1, r1, d1, f1, k1⟩ := rs.at (j := j) (by simpa using h)
    refine ⟨q, C, fun n => A n ∨ D n, by rw [e]; simpa using e1, r1, fun n c => ?_, fun n => ?_, fun M' Sh' v' p' A' h1 h2 r' d' => ?_⟩
    · intro x
      rcases x with x | x
      · exact d n x ((f1 n).2 (.inl c))
      · exact d1 n c x
    · rw [f n, f1 n]
      constructor
      · rintro (x | x | x)
        · exact .inr (.inl x)
        · exact .inl x
        · exact .inr (.inr x)
      · rintro (x | x | x)
        · exact .inr (.inl x)
        · exact .inl x
        · exact .inr (.inr x)
    · rw [e]
      refine ⟨p, qs.set j p', A, fun n => A' n ∨ D n, rfl, r.mono h1 fun n a => h2 n (.inl a), k1 M' Sh' v' p' A' h1 (fun n x => h2 n (.inr x)) r' (fun n x y => d' n x (.inr y)), ?_, fun n => ?_⟩
      · rintro n a (x | x)
        · exact d' n x (.inl a)
        · exact d n a ((f1 n).2 (.inr x))
      · constructor
        · rintro (x | x | x)
          · exact .inr (.inl x)
          · exact .inl x
          · exact .inr (.inr x)
        · rintro (x | x | x)
          · exact .inr (.inl x)
          · exact .inl x
          · exact .inr (.inr x)
/-- a place -/
theorem RE.peek {M : Store} {Sh : FP} {E : VE} {Ep : Env} {F : FP} {i : Nat} {js : List Nat} {w : V} (r : RE M Sh E Ep F) (h : peekE E i js = some w) (hg : w ≠ .gone) : ∃ (p q : PV) (A B : FP), Ep[i]? = some (some p) ∧ atP M p js = some q ∧ RV M Sh w q A ∧ (∀ n, A n → ¬ B n) ∧ (∀ n, F n ↔ (A n ∨ B n)) ∧
    ∀ (M' : Store) (Sh' : FP) (w' : V) (A' : FP), (∀ n, Sh n → Sh' n ∧ M'[n]? = M[n]?) → (∀ n, B n → M'[n]? = M[n]?) → RV M' Sh' w' q A' → (∀ n, A' n → ¬ B n) → RE M' Sh' (pokeE E i js w') Ep (fun n => A' n ∨ B n) := by
  simp only [peekE] at h
  cases hi : E[i]? with
  | none => rw [hi] at h; cases h
  | some v =>
    rw [hi] at h
    obtain ⟨o, A, B, e1, r1, d1, f1, k1⟩ := r.at hi
    rcases r1 with ⟨rfl, _⟩ | ⟨p, rfl, r1⟩
    · cases js with
      | nil => simp only [V.peek, Option.some.injEq] at h; exact absurd h.symm hg
      | cons j js => simp [V.peek, V.kids] at h
    · obtain ⟨q, A2, B2, e2, r2, d2, f2, k2⟩ := r1.at js h
      refine ⟨p, q, A2, fun n => B2 n ∨ B n, e1, e2, r2, ?_, fun n => by rw [f1 n, f2 n, or_assoc], fun M' Sh' w' A' h1 h2 r' d' => ?_⟩
      · rintro n a (x | x)
        · exact d2 n a x
        · exact d1 n ((f2 n).2 (.inl a)) x
      · have k3 := k2 M' Sh' w' A' h1 (fun n x => h2 n (.inl x)) r' (fun n x y => d' n x (.inl y))
        have k4 := k1 M' Sh' _ (some p) _ h1 (fun n x => h2 n (.inr x)) (.inr ⟨p, rfl, k3⟩) (fun n x y => x.elim (fun x => d' n x (.inr y)) fun x => d1 n ((f2 n).2 (.inr x)) y)
        rw [set_same e1] at k4
        simp only [pokeE, hi]
        exact k4.iff fun n => or_assoc
end Wn
end
section
/-! Vs2: the operations. -/
namespace Wn
open PySem
section
variable {M : Store} {Sh : FP}

/-! ### keys -/
theorem keyPV_inj {a b : I} (ha : iKey a = true) (hb : iKey b = true) (h : keyPV a = keyPV b) : a = b := by
  cases a <;> first | (cases ha; done) | (cases b <;> first | (cases hb; done) | (simp only [keyPV] at h; cases h; rfl) | (simp only [keyPV] at h; cases h))
theorem RI.key {k : I} {p : PV} (h : iKey k = true) (r : RI M Sh k p) : p = keyPV k ∧ isKey p = true := by
  cases k <;> first | (cases h; done) | (simp only [RI] at r; subst r; exact ⟨rfl, rfl⟩)
theorem RF.key {k : I} {p : PV} (h : iKey k = true) (r : RF M Sh k p) : p = keyPV k ∧ isKey p = true := by
  cases k <;> first | (cases h; done) | (simp only [RF, RI] at r; subst r; exact ⟨rfl, rfl⟩)
theorem lookup_zip {k : I} (hk : iKey k = true) : ∀ {ks : List I} {ps : List PV}, (∀ x ∈ ks, iKey x = true) → ((ks.map keyPV).zip ps).lookup (keyPV k) = (keyIx k ks).bind fun j => ps[j]?
  | [], ps, _ => rfl
  | x :: ks, [], _ => by
    simp only [List.map_cons, List.zip_nil_right, List.lookup_nil]
    cases keyIx k (x :: ks) <;> simp
  | x :: ks, p :: ps, h => by
    have ih := lookup_zip hk (ks := ks) (ps := ps) fun y hy => h y (List.mem_cons_of_mem _ hy)
    simp only [List.map_cons, List.zip_cons_cons, List.lookup_cons, keyIx]
    by_cases e : x = k
    · subst e; simp
    · have : (keyPV k == keyPV x) = false := by
        rw [beq_eq_false_iff_ne]; intro z; exact e (keyPV_inj (h x (List.mem_cons_self ..)) hk z.symm)
      rw [this, if_neg e]
      simp only [ih]
      cases keyIx k ks <;> simp
theorem keyIx_lt {k : I} : ∀ {ks : List I} {j : Nat}, keyIx k ks = some j → j < ks.length ∧ ks[j]? = some k
  | [], _, h => by cases h
  | x :: ks, j, h => by
    simp only [keyIx] at h
    by_cases e : x = k
    · rw [if_pos e] at h; cases h; simp [e]
    · rw [if_neg e] at h
      cases h1 : keyIx k ks with
      | none => rw [h1] at h; cases h
      | some i => rw [h1] at h; cases h; obtain ⟨a, b⟩ := keyIx_lt h1; exact ⟨by simp; omega, by simpa using b⟩
theorem keyIx_none {k : I} : ∀ {ks : List I}, keyIx k ks = none ↔ k ∉ ks
  | [] => by simp [keyIx]
  | x :: ks => by
    simp only [keyIx]
    by_cases e : x = k
    · simp [e]
    · rw [if_neg e]
      have := keyIx_none (k := k) (ks := ks)
      simp [this, Ne.symm e]
theorem fldIx_lt {k : Str} : ∀ {ks : List Str} {j : Nat}, fldIx k ks = some j → j < ks.length ∧ ks[j]? = some k
  | [], _, h => by cases h
  | x :: ks, j, h => by
    simp only [fldIx] at h
    by_cases e : x = k
    · rw [if_pos e] at h; cases h; simp [e]
    · rw [if_neg e] at h
      cases h1 : fldIx k ks with
      | none => rw [h1] at h; cases h
      | some i => rw [h1] at h; cases h; obtain ⟨a, b⟩ := fldIx_lt h1; exact ⟨by simp; omega, by simpa using b⟩
theorem fldIx_none {k : Str} : ∀ {ks : List Str}, fldIx k ks = none ↔ k ∉ ks
  | [] => by simp [fldIx]
  | x :: ks => by
    simp only [fldIx]
    by_cases e : x = k
    · simp [e]
    · rw [if_neg e]
      have := fldIx_none (k := k) (ks := ks)
      simp [this, Ne.symm e]
theorem lookupF_zip {k : Str} : ∀ {ks : List Str} {ps : List PV}, (ks.zip ps).lookup k = (fldIx k ks).bind fun j => ps[j]?
  | [], ps => rfl
  | x :: ks, [] => by
    simp only [List.zip_nil_right, List.lookup_nil]
    cases fldIx k (x :: ks) <;> simp
  | x :: ks, p :: ps => by
    have ih := lookupF_zip (k := k) (ks := ks) (ps := ps)
    simp only [List.zip_cons_cons, List.lookup_cons, fldIx]
    by_cases e : x = k
    · subst e; simp
    · have : (k == x) = false := by
        rw [beq_eq_false_iff_ne]; exact Ne.symm e
      rw [this, if_neg e]
      simp only [ih]
      cases fldIx k ks <;> simp
theorem any_zip {k : I} (hk : iKey k = true) : ∀ {ks : List I} {ps : List PV}, (∀ x ∈ ks, iKey x = true) → ks.length = ps.length → (((ks.map keyPV).zip ps).any fun p => decide (p.1 = keyPV k)) = decide (k ∈ ks)
  | [], [], _, _ => by simp
  | x :: ks, p :: ps, h, l => by
    have ih := any_zip hk (ks := ks) (ps := ps) (fun y hy => h y (List.mem_cons_of_mem _ hy)) (by simpa using l)
    simp only [List.map_cons, List.zip_cons_cons, List.any_cons, ih]
    by_cases e : x = k
    · subst e; simp
    · have : keyPV x ≠ keyPV k := fun z => e (keyPV_inj (h x (List.mem_cons_self ..)) hk z)
      simp [this, Ne.symm e]
theorem map_zip_put {k : I} (hk : iKey k = true) {v : PV} : ∀ {ks : List I} {ps : List PV} {j : Nat}, (∀ x ∈ ks, iKey x = true) → ks.Nodup → ks.length = ps.length → keyIx k ks = some j → (((ks.map keyPV).zip ps).map fun p => if p.1 = keyPV k then (p.1, v) else p) = (ks.map keyPV).zip (ps.set j v)
  | x :: ks, p :: ps, j, h, nd, l, e => by
    have hn : ∀ {ks : List I} {ps : List PV}, (∀ x ∈ ks, iKey x = true) → k ∉ ks → (((ks.map keyPV).zip ps).map fun p => if p.1 = keyPV k then (p.1, v) else p) = (ks.map keyPV).zip ps := by
      intro ks ps h hk'
      induction ks generalizing ps with
      | nil => rfl
      | cons y ks ih =>
        cases ps with
        | nil => rfl
        | cons q ps =>
          simp only [List.map_cons, List.zip_cons_cons]
          rw [if_neg (fun z => hk' (by rw [keyPV_inj (h y (List.mem_cons_self ..)) hk z]; exact List.mem_cons_self ..)), ih (fun z hz => h z (List.mem_cons_of_mem _ hz)) (fun z => hk' (List.mem_cons_of_mem _ z))]
    have nd' := List.nodup_cons.1 nd
    simp only [keyIx] at e
    by_cases he : x = k
    · rw [if_pos he] at e; cases e
      subst he
      simp only [List.map_cons, List.zip_cons_cons, List.set_cons_zero]
      rw [if_pos trivial, hn (fun y hy => h y (List.mem_cons_of_mem _ hy)) nd'.1]
    · rw [if_neg he] at e
      cases h1 : keyIx k ks with
      | none => rw [h1] at e; cases e
      | some i =>
        rw [h1] at e; cases e
        have ih := map_zip_put hk (v := v) (ks := ks) (ps := ps) (j := i) (fun y hy => h y (List.mem_cons_of_mem _ hy)) nd'.2 (by simpa using l) h1
        simp only [List.map_cons, List.zip_cons_cons, List.set_cons_succ]
        rw [if_neg (fun z => he (keyPV_inj (h x (List.mem_cons_self ..)) hk z)), ih]
/-- put into a dict: the pairs -/
theorem putD_zip {k : I} (hk : iKey k = true) {v : PV} {ks : List I} {ps : List PV} (h : ∀ x ∈ ks, iKey x = true) (nd : ks.Nodup) (l : ks.length = ps.length) : putD (keyPV k) v ((ks.map keyPV).zip ps) = ((putV k v (ks, ps)).1.map keyPV).zip (putV k v (ks, ps)).2 := by
  simp only [putD, any_zip hk h l, putV]
  cases e : keyIx k ks with
  | none =>
    have := keyIx_none.1 e
    rw [if_neg (by simpa using this)]
    simp only [List.map_append, List.map_cons, List.map_nil]
    rw [List.zip_append (by simpa using l)]
    rfl
  | some j =>
    have : k ∈ ks := by
      have := (keyIx_lt e).2
      exact List.mem_of_getElem? this
    rw [if_pos (by simpa using this)]
    exact map_zip_put hk h nd l e
theorem putV_ok {α : Type} {k : I} (hk : iKey k = true) {v : α} {ks : List I} {vs : List α} (h : Knd.ok (.dic ks) vs.length) : Knd.ok (.dic (putV k v (ks, vs)).1) (putV k v (ks, vs)).2.length := by
  obtain ⟨l, nd, h⟩ := h
  simp only [putV]
  cases e : keyIx k ks with
  | none =>
    have hn := keyIx_none.1 e
    refine ⟨by simp [l], ?_, ?_⟩
    · rw [List.nodup_append]
      exact ⟨nd, by simp, fun a ha b hb => by simp at hb; subst hb; intro z; subst z; exact hn ha⟩
    · intro x hx
      rcases List.mem_append.1 hx with hx | hx
      · exact h x hx
      · simp at hx; subst hx; exact hk
  | some j => exact ⟨by simp [l], nd, h⟩
theorem putV_len {α β : Type} {k : I} {v : α} {w : β} {ks : List I} {vs : List α} {ws : List β} : (putV k v (ks, vs)).1 = (putV k w (ks, ws)).1 := by
  simp only [putV]; cases keyIx k ks <;> rfl
theorem RIs.set : ∀ {xs : List I} {ps : List PV} {j : Nat} {x : I} {p : PV}, RIs M Sh xs ps → RI M Sh x p → RIs M Sh (xs.set j x) (ps.set j p)
  | [], _, _, _, _, r, _ => by rw [show _ = [] from r]; simpa [RIs] using r
  | y :: xs, _, 0, x, p, ⟨q, qs, e, _, rs⟩, s => by rw [e]; exact ⟨p, qs, rfl, s, rs⟩
  | y :: xs, _, j + 1, x, p, ⟨q, qs, e, r, rs⟩, s => by rw [e]; exact ⟨q, _, rfl, r, rs.set s⟩
theorem putV_ri {k : I} {x : I} {p : PV} {ks : List I} {xs : List I} {ps : List PV} (r : RIs M Sh xs ps) (s : RI M Sh x p) : RIs M Sh (putV k x (ks, xs)).2 (putV k p (ks, ps)).2 := by
  simp only [putV]
  cases keyIx k ks with
  | none => exact r.append ⟨p, [], rfl, s, rfl⟩
  | some j => exact r.set s

/-! ### reading, == -/
def fk (M : Store) : Nat → Nat → Option DV
  | 0 => fun _ => none
  | k + 1 => fun n => match M[n]? with
    | some (.lst xs) => (xs.mapM (rdM M k)).map .lst
    | _ => none
theorem rdM_eq (M : Store) (k : Nat) : rdM M k = rdW (fk M k) := by cases k <;> rfl
theorem fk_lst {n k : Nat} {ps : List PV} (m : M[n]? = some (.lst ps)) : fk M (k + 1) n = (ps.mapM (rdW (fk M k))).map .lst := by
  rw [← rdM_eq]; simp only [fk, m]
mutual
theorem RI.rd : ∀ (x : I) {p : PV} {d : DV} {k : Nat}, RI M Sh x p → x.dv = some d → x.lists ≤ k → rdW (fk M k) p = some d
  | .non, _, _, _, r, h, _ => by rw [show _ = _ from r]; exact h
  | .bl _, _, _, _, r, h, _ => by rw [show _ = _ from r]; exact h
  | .int _, _, _, _, r, h, _ => by rw [show _ = _ from r]; exact h
  | .str _, _, _, _, r, h, _ => by rw [show _ = _ from r]; exact h
  | .fl _, _, _, _, _, h, _ => by cases h
  | .dic _ _, _, _, _, _, h, _ => by cases h
  | .ins _ _ _, _, _, _, _, h, _ => by cases h
  | .exc _ _ _, _, _, _, _, h, _ => by cases h
  | .tup xs, _, d, k, ⟨ps, e, rs⟩, h, l => by
    simp only [I.dv] at h
    cases hv : I.dvs xs with
    | none => rw [hv] at h; cases h
    | some ds =>
      rw [hv] at h; cases h
      rw [e, rdW, RIs.rd xs rs hv (by simpa [I.lists] using l)]; rfl
  | .lst xs, _, d, k, ⟨n, ps, e, _, m, rs⟩, h, l => by
    simp only [I.dv] at h
    cases hv : I.dvs xs with
    | none => rw [hv] at h; cases h
    | some ds =>
      rw [hv] at h; cases h
      simp only [I.lists] at l
      obtain ⟨k, rfl⟩ : ∃ k', k = k' + 1 := ⟨k - 1, by omega⟩
      simp only [objOf] at m
      rw [e, rdW, fk_lst m, RIs.rdm xs rs hv (show I.listss xs ≤ k by omega)]; rfl
theorem RIs.rd : ∀ (xs : List I) {ps : List PV} {ds : List DV} {k : Nat}, RIs M Sh xs ps → I.dvs xs = some ds → I.listss xs ≤ k → rdW.rdL (fk M k) ps = some ds
  | [], _, _, _, r, h, _ => by rw [show _ = [] from r]; exact h
  | x :: xs, _, ds, k, ⟨p, qs, e, r, rs⟩, h, l => by
    simp only [I.dvs] at h
    simp only [I.listss] at l
    cases h1 : I.dv x with
    | none => rw [h1] at h; cases h
    | some d =>
      rw [h1] at h
      cases h2 : I.dvs xs with
      | none => simp only [h2] at h; cases h
      | some es =>
        simp only [h2] at h; cases h
        rw [e, rdW.rdL, RI.rd x r h1 (by omega), RIs.rd xs rs h2 (by omega)]; rfl
theorem RIs.rdm : ∀ (xs : List I) {ps : List PV} {ds : List DV} {k : Nat}, RIs M Sh xs ps → I.dvs xs = some ds → I.listss xs ≤ k → ps.mapM (rdW (fk M k)) = some ds
  | [], _, _, _, r, h, _ => by rw [show _ = [] from r]; exact h
  | x :: xs, _, ds, k, ⟨p, qs, e, r, rs⟩, h, l => by
    simp only [I.dvs] at h
    simp only [I.listss] at l
    cases h1 : I.dv x with
    | none => rw [h1] at h; cases h
    | some d =>
      rw [h1] at h
      cases h2 : I.dvs xs with
      | none => simp only [h2] at h; cases h
      | some es =>
        simp only [h2] at h; cases h
        rw [e, List.mapM_cons, RI.rd x r h1 (by omega), RIs.rdm xs rs h2 (by omega)]; rfl
end
theorem RF.rd {x : I} {p : PV} {d : DV} (r : RF M Sh x p) (h : x.dv = some d) (l : x.lists ≤ 3) : rdM M 3 p = some d := by
  rw [rdM_eq]
  cases x with
  | lst xs =>
    obtain ⟨n, ps, e, m, rs⟩ := r
    simp only [I.dv] at h
    cases hv : I.dvs xs with
    | none => rw [hv] at h; cases h
    | some ds =>
      rw [hv] at h; cases h
      simp only [I.lists] at l
      simp only [objOf] at m
      rw [e, rdW, fk_lst m, RIs.rdm xs rs hv (show I.listss xs ≤ 2 by omega)]; rfl
  | dic ks xs => cases h
  | ins C fs xs => cases h
  | _ => exact RI.rd _ r h l
theorem RF.eq {a b : I} {p q : PV} {t : Bool} (r : RF M Sh a p) (s : RF M Sh b q) (h : iEq a b = some t) : doEq M p q = some t := by
  simp only [iEq] at h
  cases ha : a.dv with
  | none => rw [ha] at h; cases h
  | some d =>
    cases hb : b.dv with
    | none => rw [ha, hb] at h; cases h
    | some e =>
      rw [ha, hb] at h
      simp only at h
      split at h
      · rename_i hc
        simp only [doEq, r.rd ha hc.1, s.rd hb hc.2.1, if_pos hc.2.2]
        exact h
      · cases h
theorem RF.anyEq {x : I} {p : PV} (r : RF M Sh x p) : ∀ {ys : List I} {qs : List PV} {t : Bool}, RIs M Sh ys qs → iAnyEq x ys = some t → anyEq M p qs = some t
  | [], _, _, s, h => by rw [show _ = [] from s]; exact h
  | y :: ys, _, t, ⟨q, qs, e, s, ss⟩, h => by
    simp only [iAnyEq] at h
    cases h1 : iEq y x with
    | none => rw [h1] at h; cases h
    | some b =>
      cases h2 : iAnyEq x ys with
      | none => rw [h1, h2] at h; cases h
      | some c =>
        rw [h1, h2] at h
        rw [e, Wn.anyEq, s.rf.eq r h1, r.anyEq ss h2]
        exact h
theorem RF.in {x y : I} {p q : PV} {t : Bool} (r : RF M Sh x p) (s : RF M Sh y q) (h : iIn x y = some t) : doIn M p q = some t := by
  cases y with
  | str z =>
    rw [show q = _ from s]
    cases x <;> first | (cases h; done) | (rw [show p = _ from r]; exact h)
  | tup ys => obtain ⟨ps, e, ss⟩ := s; rw [e]; exact r.anyEq ss h
  | lst ys =>
    obtain ⟨n, ps, e, m, ss⟩ := s
    simp only [objOf] at m
    simp only [e, doIn, m]; exact r.anyEq ss h
  | dic ks vs =>
    obtain ⟨n, ps, e, m, o, ss⟩ := s
    simp only [objOf] at m
    simp only [iIn] at h
    cases hk : iKey x with
    | false => rw [hk] at h; cases h
    | true =>
      rw [hk] at h
      obtain ⟨e1, e2⟩ := r.key hk
      simp only [e, doIn, m, e2, if_true, e1]
      have e3 : isKey (keyPV x) = true := by rw [← e1]; exact e2
      rw [if_pos e3, any_zip hk o.2.2 o.1]
      exact h
  | _ => cases h
theorem RF.is_non {x : I} {p : PV} (r : RF M Sh x p) : (p = .non) ↔ (x = .non) := by
  cases x with
  | non => simp only [RF, RI] at r; simp [r]
  | bl b => simp only [RF, RI] at r; simp [r]
  | int b => simp only [RF, RI] at r; simp [r]
  | str b => simp only [RF, RI] at r; simp [r]
  | fl b => simp only [RF, RI] at r; simp [r]
  | tup xs => obtain ⟨ps, e, _⟩ := r; simp [e]
  | lst xs => obtain ⟨n, ps, e, _⟩ := r; simp [e]
  | dic ks xs => obtain ⟨n, ps, e, _⟩ := r; simp [e]
  | ins C fs xs => obtain ⟨n, ps, e, _⟩ := r; simp [e]
  | exc C fs xs => obtain ⟨ps, e, _⟩ := r; simp [e]
theorem RF.is {x y : I} {p q : PV} {t : Bool} (r : RF M Sh x p) (s : RF M Sh y q) (h : iIs x y = some t) : doIs p q = some t := by
  cases y with
  | non =>
    rw [show q = _ from s]
    have := r.is_non
    simp only [iIs] at h
    cases p <;> simp only [doIs] <;> (rw [← h]; congr 1; simp [← this])
  | bl b =>
    rw [show q = _ from s]
    cases x <;> first | (cases h; done) | (rw [show p = _ from r]; exact h)
  | _ => cases x <;> cases h
theorem RF.cmp {o : COp} {x y : I} {p q : PV} {t : Bool} (r : RF M Sh x p) (s : RF M Sh y q) (h : iCmp o x y = some t) : doCmp M o p q = some t := by
  have neg : ∀ {a b : Option Bool}, (∀ t, a = some t → b = some t) → a.map (!·) = some t → b.map (!·) = some t := by
    intro a b g h
    cases a with
    | none => cases h
    | some c => rw [g c rfl]; exact h
  cases o with
  | eq => exact r.eq s h
  | ne => exact neg (fun t => r.eq s) h
  | isin => exact r.in s h
  | notin => exact neg (fun t => r.in s) h
  | is_ => exact r.is s h
  | isnot => exact neg (fun t => r.is s) h
  | _ =>
    cases x <;> first | (cases h; done) | skip
    cases y <;> first | (cases h; done) | (rw [show p = _ from r, show q = _ from s]; exact h)
theorem RF.truth {x : I} {p : PV} {t : Bool} (r : RF M Sh x p) (h : iTruth x = some t) : truth M p = some t := by
  cases x with
  | tup xs =>
    obtain ⟨ps, e, rs⟩ := r
    have := rs.length
    rw [e]; simp only [Wn.truth]; rw [← h]; simp only [iTruth]
    congr 2
    cases xs <;> cases ps <;> simp at this ⊢
  | lst xs =>
    obtain ⟨n, ps, e, m, rs⟩ := r
    have := rs.length
    simp only [objOf] at m
    rw [e]; simp only [Wn.truth, m]; rw [← h]; simp only [iTruth]
    congr 2
    cases xs <;> cases ps <;> simp at this ⊢
  | dic ks xs =>
    obtain ⟨n, ps, e, m, o, rs⟩ := r
    have := o.1
    simp only [objOf] at m
    rw [e]; simp only [Wn.truth, m]; rw [← h]; simp only [iTruth]
    congr 2
    cases ks <;> cases ps <;> simp at this ⊢
  | ins C fs xs => cases h
  | fl xs => cases h
  | exc C fs xs => cases h
  | _ => rw [show p = _ from r]; exact h
end
end Wn
end
section
/-! Vs3: operations that make something. -/
namespace Wn
open PySem
section
variable {M : Store} {Sh : FP}
/-- nothing is made, or one new object -/
def New (M : Store) (Sh : FP) (v : V) (p : PV) (M' : Store) : Prop := (M' = M ∧ RV M Sh v p fun _ => False) ∨ ∃ ob, M' = M ++ [ob] ∧ RV M' Sh v p fun n => n = M.length
theorem New.im {x : I} {p : PV} (r : RI M Sh x p) : New M Sh (.im x) p M := .inl ⟨rfl, r, fun _ h => h⟩
theorem app_kept {o : MO} (sl : ∀ n, Sh n → n < M.length) : ∀ n, Sh n → Sh n ∧ (M ++ [o])[n]? = M[n]? := fun n s => ⟨s, List.getElem?_append_left (sl n s)⟩
theorem New.obj {k : Knd} {xs : List I} {ps : List PV} (sl : ∀ n, Sh n → n < M.length) (r : RIs M Sh xs ps) (o : k.ok ps.length) : New M Sh (.obj k (xs.map .im)) (.loc M.length) (M ++ [objOf k ps]) :=
  .inr ⟨_, rfl, M.length, ps, fun _ => False, rfl, by simp, o, RVs.of_ims (r.mono (app_kept sl)) (fun _ h => h), fun h => h, fun m => ⟨fun h => .inl h, fun h => h.elim id False.elim⟩⟩
theorem New.lst {xs : List I} {ps : List PV} (sl : ∀ n, Sh n → n < M.length) (r : RIs M Sh xs ps) : New M Sh (lstV xs) (.loc M.length) (M ++ [.lst ps]) := New.obj (k := .lst) sl r trivial

theorem RF.idx {x k : I} {p q : PV} {y : I} (r : RF M Sh x p) (s : RF M Sh k q) (h : iIdx x k = some y) : ∃ w, doIdx M p q = some w ∧ RI M Sh y w := by
  cases x with
  | fl xs =>
    cases k <;> first | (cases h; done) | skip
    rename_i i
    rw [show p = _ from r, show q = _ from s]
    simp only [iIdx] at h
    cases hj : ixOf xs.length i with
    | none => rw [hj] at h; cases h
    | some j =>
      rw [hj] at h
      simp only [Option.bind_some] at h
      cases hx : xs[j]? with
      | none => rw [hx] at h; cases h
      | some z => rw [hx] at h; cases h; exact ⟨.int z, by simp [doIdx, hj, hx], rfl⟩
  | tup xs =>
    cases k <;> first | (cases h; done) | skip
    rename_i i
    obtain ⟨ps, e, rs⟩ := r
    rw [e, show q = _ from s]
    simp only [iIdx] at h
    cases hj : ixOf xs.length i with
    | none => rw [hj] at h; cases h
    | some j =>
      rw [hj] at h
      obtain ⟨w, e1, r1⟩ := rs.get (show xs[j]? = some y from h)
      exact ⟨w, by simp [doIdx, rs.length, hj, e1], r1⟩
  | lst xs =>
    cases k <;> first | (cases h; done) | skip
    rename_i i
    obtain ⟨n, ps, e, m, rs⟩ := r
    simp only [objOf] at m
    rw [e, show q = _ from s]
    simp only [iIdx] at h
    cases hj : ixOf xs.length i with
    | none => rw [hj] at h; cases h
    | some j =>
      rw [hj] at h
      obtain ⟨w, e1, r1⟩ := rs.get (show xs[j]? = some y from h)
      exact ⟨w, by simp [doIdx, m, rs.length, hj, e1], r1⟩
  | str x =>
    cases k <;> first | (cases h; done) | skip
    rename_i i
    rw [show p = _ from r, show q = _ from s]
    simp only [iIdx] at h
    split at h
    · rename_i hb
      cases hj : ixOf x.cps.toList.length i with
      | none => rw [hj] at h; cases h
      | some j =>
        rw [hj] at h
        simp only [Option.bind_some] at h
        cases hx : x.cps.toList[j]? with
        | none => rw [hx] at h; cases h
        | some z => rw [hx] at h; cases h; exact ⟨.str ⟨#[z]⟩, by simp only [doIdx, if_pos hb, hj, Option.bind_some, hx, Option.map_some], rfl⟩
    · cases h
  | dic ks xs =>
    obtain ⟨n, ps, e, m, o, rs⟩ := r
    simp only [objOf] at m
    simp only [iIdx] at h
    cases hk : iKey k with
    | false => rw [hk] at h; cases h
    | true =>
      rw [hk] at h
      obtain ⟨e1, e2⟩ := s.key hk
      rw [if_pos rfl] at h
      cases hj : keyIx k ks with
      | none => rw [hj] at h; cases h
      | some j =>
        rw [hj] at h
        obtain ⟨w, e3, r3⟩ := rs.get (show xs[j]? = some y from h)
        refine ⟨w, ?_, r3⟩
        rw [e]
        simp only [doIdx, m]
        rw [if_pos e2, e1, lookup_zip hk o.2.2, hj]
        exact e3
  | _ => cases k <;> cases h
theorem cut_ri {xs : List I} {ps : List PV} (r : RIs M Sh xs ps) (lo hi : Option Int) : RIs M Sh (cut xs lo hi) (cut ps lo hi) := by
  simp only [cut, r.length]
  exact (r.drop _).take _
theorem rep_ri {xs : List I} {ps : List PV} (r : RIs M Sh xs ps) : ∀ k : Nat, RIs M Sh (List.replicate k xs).flatten (List.replicate k ps).flatten
  | 0 => rfl
  | k + 1 => by simp only [List.replicate_succ, List.flatten_cons]; exact r.append (rep_ri r k)
theorem RF.bin (sl : ∀ n, Sh n → n < M.length) {o : BOp} {x y : I} {p q : PV} {v : V} (r : RF M Sh x p) (s : RF M Sh y q) (h : iBin o x y = some v) : ∃ w M', doBin M o p q = .ok w M' ∧ New M Sh v w M' := by
  have hi : ∀ {c : Prop} [Decidable c] {a : V}, (if c then some a else none) = some v → c ∧ a = v := by
    intro c _ a h; split at h
    · cases h; exact ⟨by assumption, rfl⟩
    · cases h
  cases o with
  | add =>
    cases x with
    | int a =>
      cases y <;> first | (cases h; done) | skip
      rw [show p = _ from r, show q = _ from s]; cases h; exact ⟨_, M, rfl, New.im rfl⟩
    | str a =>
      cases y <;> first | (cases h; done) | skip
      rw [show p = _ from r, show q = _ from s]
      obtain ⟨hc, e⟩ := hi h; subst e
      exact ⟨_, M, by simp only [doBin]; exact if_pos hc, New.im rfl⟩
    | tup a =>
      cases y <;> first | (cases h; done) | skip
      obtain ⟨ps, e1, rs⟩ := r
      obtain ⟨qs, e2, ss⟩ := s
      obtain ⟨hc, e⟩ := hi h; subst e
      rw [e1, e2]
      exact ⟨.tup (ps ++ qs), M, by simp only [doBin]; exact if_pos (by rw [rs.length, ss.length]; exact hc), New.im ⟨_, rfl, rs.append ss⟩⟩
    | lst a =>
      cases y <;> first | (cases h; done) | skip
      obtain ⟨n, ps, e1, m1, rs⟩ := r
      obtain ⟨n2, qs, e2, m2, ss⟩ := s
      obtain ⟨hc, e⟩ := hi h; subst e
      simp only [objOf] at m1 m2
      rw [e1, e2]
      exact ⟨_, _, by simp only [doBin, m1, m2]; exact if_pos (by rw [rs.length, ss.length]; exact hc), New.lst sl (rs.append ss)⟩
    | _ => cases y <;> cases h
  | mul =>
    cases x with
    | int a =>
      cases y <;> first | (cases h; done) | skip
      rw [show p = _ from r, show q = _ from s]
      obtain ⟨hc, e⟩ := hi h; subst e
      exact ⟨_, M, by simp only [doBin]; exact if_pos hc, New.im rfl⟩
    | str a =>
      cases y <;> first | (cases h; done) | skip
      rw [show p = _ from r, show q = _ from s]
      obtain ⟨hc, e⟩ := hi h; subst e
      exact ⟨_, M, by simp only [doBin]; exact if_pos hc, New.im rfl⟩
    | lst a =>
      cases y <;> first | (cases h; done) | skip
      obtain ⟨n, ps, e1, m1, rs⟩ := r
      obtain ⟨hc, e⟩ := hi h; subst e
      simp only [objOf] at m1
      rw [e1, show q = _ from s]
      exact ⟨_, _, by simp only [doBin, m1]; exact if_pos (by rw [rs.length]; exact hc), New.lst sl (rep_ri rs _)⟩
    | _ => cases y <;> cases h
  | sub =>
    cases x <;> first | (cases h; done) | skip
    cases y <;> first | (cases h; done) | skip
    rw [show p = _ from r, show q = _ from s]; cases h; exact ⟨_, M, rfl, New.im rfl⟩
  | _ =>
    cases x <;> first | (cases h; done) | skip
    cases y <;> first | (cases h; done) | skip
    rw [show p = _ from r, show q = _ from s]
    obtain ⟨hc, e⟩ := hi h; subst e
    exact ⟨_, M, by simp only [doBin]; exact if_pos hc, New.im rfl⟩
theorem RF.slice (sl : ∀ n, Sh n → n < M.length) {x : I} {p : PV} {v : V} {lo hi : Option Int} (r : RF M Sh x p) (h : iSlice x lo hi = some v) : ∃ w M', doSlice M p lo hi = .ok w M' ∧ New M Sh v w M' := by
  cases x with
  | tup xs => obtain ⟨ps, e, rs⟩ := r; cases h; rw [e]; exact ⟨_, M, rfl, New.im ⟨_, rfl, cut_ri rs lo hi⟩⟩
  | lst xs =>
    obtain ⟨n, ps, e, m, rs⟩ := r; cases h; rw [e]
    simp only [objOf] at m
    exact ⟨_, _, by simp only [doSlice, m] <;> rfl, New.lst sl (cut_ri rs lo hi)⟩
  | str x =>
    rw [show p = _ from r]
    simp only [iSlice] at h
    split at h
    · rename_i hb; cases h; exact ⟨_, M, by simp only [doSlice]; exact if_pos hb, New.im rfl⟩
    · cases h
  | _ => cases h
theorem RF.rev (sl : ∀ n, Sh n → n < M.length) {x : I} {p : PV} {v : V} (r : RF M Sh x p) (h : iRev x = some v) : ∃ w M', (match p with
    | .tup xs => .ok (.tup xs.reverse) M
    | .loc n => (match M[n]? with
      | some (.lst xs) => .ok (.loc M.length) (M ++ [.lst xs.reverse])
      | _ => .bad)
    | _ => .bad : Res PV) = .ok w M' ∧ New M Sh v w M' := by
  cases x with
  | tup xs => obtain ⟨ps, e, rs⟩ := r; cases h; rw [e]; exact ⟨_, M, rfl, New.im ⟨_, rfl, rs.reverse⟩⟩
  | lst xs =>
    obtain ⟨n, ps, e, m, rs⟩ := r; cases h; rw [e]
    simp only [objOf] at m
    exact ⟨_, _, by simp only [m] <;> rfl, New.lst sl rs.reverse⟩
  | _ => cases h
theorem RF.ty {c : Ctx} {x : I} {p : PV} {t : Ty} {b : Bool} (r : RF M Sh x p) (h : iTy c.sub x t = some b) : isTyC c M p t = some b := by
  cases x with
  | tup xs => obtain ⟨ps, e, rs⟩ := r; rw [e]; cases t <;> exact h
  | lst xs =>
    obtain ⟨n, ps, e, m, rs⟩ := r
    simp only [objOf] at m
    rw [e]; cases t <;> simp only [isTyC, isTy, m] <;> exact h
  | dic ks xs =>
    obtain ⟨n, ps, e, m, rs⟩ := r
    simp only [objOf] at m
    rw [e]; cases t <;> simp only [isTyC, isTy, m] <;> exact h
  | ins C fs xs =>
    obtain ⟨n, ps, e, m, rs⟩ := r
    simp only [objOf] at m
    rw [e]; cases t <;> first | (cases h; done) | (simp only [isTyC, isTy, m]; exact h)
  | exc C fs xs => obtain ⟨ps, e, rs⟩ := r; rw [e]; cases t <;> first | (cases h; done) | exact h
  | fl xs => cases t <;> cases h
  | _ => rw [show p = _ from r]; cases t <;> exact h
theorem RF.items {x : I} {p : PV} {xs : List I} (r : RF M Sh x p) (h : iItems x = some xs) : ∃ ps, items M p = some ps ∧ RIs M Sh xs ps := by
  cases x with
  | tup ys => cases h; obtain ⟨ps, e, rs⟩ := r; exact ⟨ps, by rw [e]; rfl, rs⟩
  | lst ys => cases h; obtain ⟨n, ps, e, m, rs⟩ := r; simp only [objOf] at m; exact ⟨ps, by rw [e]; simp only [Wn.items, m], rs⟩
  | _ => cases h
theorem RIs.bools : ∀ {xs : List I} {ps : List PV} {bs : List Bool}, RIs M Sh xs ps → iBools xs = some bs → bools ps = some bs
  | [], _, _, r, h => by rw [show _ = [] from r]; exact h
  | x :: xs, _, bs, ⟨p, qs, e, r, rs⟩, h => by
    cases x <;> first | (cases h; done) | skip
    simp only [iBools] at h
    cases h1 : iBools xs with
    | none => rw [h1] at h; cases h
    | some cs => rw [h1] at h; rw [e, show p = _ from r, Wn.bools, rs.bools h1]; exact h
theorem RIs.ints : ∀ {xs : List I} {ps : List PV} {bs : List Int}, RIs M Sh xs ps → iInts xs = some bs → intsOf ps = some bs
  | [], _, _, r, h => by rw [show _ = [] from r]; exact h
  | x :: xs, _, bs, ⟨p, qs, e, r, rs⟩, h => by
    cases x <;> first | (cases h; done) | skip
    simp only [iInts] at h
    cases h1 : iInts xs with
    | none => rw [h1] at h; cases h
    | some cs => rw [h1] at h; rw [e, show p = _ from r, Wn.intsOf, rs.ints h1]; exact h
theorem RIs.strs : ∀ {xs : List I} {ps : List PV} {bs : List Str}, RIs M Sh xs ps → iStrs xs = some bs → strsOf ps = some bs
  | [], _, _, r, h => by rw [show _ = [] from r]; exact h
  | x :: xs, _, bs, ⟨p, qs, e, r, rs⟩, h => by
    cases x <;> first | (cases h; done) | skip
    simp only [iStrs] at h
    cases h1 : iStrs xs with
    | none => rw [h1] at h; cases h
    | some cs => rw [h1] at h; rw [e, show p = _ from r, Wn.strsOf, rs.strs h1]; exact h
theorem RIs.of_strs : ∀ xs : List Str, RIs M Sh (xs.map .str) (xs.map .str)
  | [] => rfl
  | x :: xs => ⟨_, _, rfl, rfl, RIs.of_strs xs⟩
theorem RIs.zip : ∀ {xs ys : List I} {ps qs : List PV}, RIs M Sh xs ps → RIs M Sh ys qs → RIs M Sh (iZip xs ys) (zipP ps qs)
  | [], _, _, _, r, _ => by rw [show _ = [] from r]; simp [iZip, zipP, RIs]
  | x :: xs, [], _, _, ⟨p, qs, e, r, rs⟩, s => by rw [e, show _ = [] from s]; simp [iZip, zipP, RIs]
  | x :: xs, y :: ys, _, _, ⟨p, qs, e, r, rs⟩, ⟨p2, qs2, e2, r2, rs2⟩ => by
    rw [e, e2]
    exact ⟨_, _, rfl, ⟨_, rfl, p, [p2], rfl, r, p2, [], rfl, r2, rfl⟩, rs.zip rs2⟩
theorem RIs.pairs : ∀ {xs : List I} {ps : List PV} {ks ys : List I} {qs : List PV} {d : List I × List I}, RIs M Sh xs ps → Knd.ok (.dic ks) qs.length → RIs M Sh ys qs → iPairs (ks, ys) xs = some d →
    ∃ kvs qs', pairs ps = some kvs ∧ mergeD ((ks.map keyPV).zip qs) kvs = (d.1.map keyPV).zip qs' ∧ RIs M Sh d.2 qs' ∧ Knd.ok (.dic d.1) qs'.length
  | [], _, ks, ys, qs, d, r, o, s, h => by
    cases h
    exact ⟨[], qs, by rw [show _ = [] from r]; rfl, rfl, s, o⟩
  | x :: xs, _, ks, ys, qs, d, ⟨p, ps, e, r, rs⟩, o, s, h => by
    cases x <;> first | (cases h; done) | skip
    rename_i zs
    match zs, h, r with
    | [k, v], h, r =>
      obtain ⟨ts, e1, p1, t1, e2, r1, p2, t2, e3, r2, e4⟩ := r
      simp only [iPairs] at h
      cases hk : iKey k with
      | false => rw [hk] at h; cases h
      | true =>
        rw [hk, if_pos rfl] at h
        obtain ⟨ek, ik⟩ := r1.key hk
        have l : (putV k v (ks, ys)).1 = (putV k p2 (ks, qs)).1 := putV_len
        have o' := putV_ok (v := p2) hk o
        rw [← l] at o'
        obtain ⟨kvs, qs', a, b, c1, c2⟩ := rs.pairs (ks := (putV k v (ks, ys)).1) (ys := (putV k v (ks, ys)).2) (qs := (putV k p2 (ks, qs)).2) o' (putV_ri s r2) h
        refine ⟨(p1, p2) :: kvs, qs', ?_, ?_, c1, c2⟩
        · rw [e, e1, e2, e3, show t2 = [] from e4]
          simp only [Wn.pairs, ik, if_true, a, Option.map_some]
        · simp only [mergeD]
          rw [ek, putD_zip hk o.2.2 o.2.1 o.1, ← l]
          exact b
theorem RF.bi1 (sl : ∀ n, Sh n → n < M.length) {f : Bi} {x : I} {p : PV} {v : V} (r : RF M Sh x p) (h : iBi f [x] = some v) : ∃ w M', doBi M f [p] = .ok w M' ∧ New M Sh v w M' := by
  have om : ∀ {α : Type} {o : Option α} {g : α → V}, o.map g = some v → ∃ a, o = some a ∧ g a = v := by
    intro α o g h; cases o with
    | none => cases h
    | some a => cases h; exact ⟨a, rfl, rfl⟩
  cases f with
  | len =>
    cases x with
    | str a =>
      rw [show p = _ from r]; simp only [iBi] at h
      split at h
      · rename_i hb; cases h; exact ⟨_, M, by simp only [doBi]; exact if_pos hb, New.im rfl⟩
      · cases h
    | tup xs => obtain ⟨ps, e, rs⟩ := r; cases h; rw [e]; exact ⟨_, M, rfl, by rw [rs.length]; exact New.im rfl⟩
    | fl xs => rw [show p = _ from r]; cases h; exact ⟨_, M, rfl, New.im rfl⟩
    | lst xs =>
      obtain ⟨n, ps, e, m, rs⟩ := r; cases h
      simp only [objOf] at m
      rw [e]; exact ⟨_, M, by simp only [doBi, m] <;> rfl, by rw [rs.length]; exact New.im rfl⟩
    | dic ks xs =>
      obtain ⟨n, ps, e, m, o, rs⟩ := r; cases h
      simp only [objOf] at m
      rw [e]; exact ⟨_, M, by simp only [doBi, m] <;> rfl, by
        rw [List.length_zip, List.length_map, o.1, Nat.min_self, ← o.1]; exact New.im rfl⟩
    | _ => cases h
  | list =>
    obtain ⟨xs, e1, e2⟩ := om h
    obtain ⟨ps, e3, rs⟩ := r.items e1
    subst e2
    exact ⟨_, _, by simp only [doBi, e3] <;> rfl, New.lst sl rs⟩
  | tuple =>
    obtain ⟨xs, e1, e2⟩ := om h
    obtain ⟨ps, e3, rs⟩ := r.items e1
    subst e2
    exact ⟨_, M, by simp only [doBi, e3] <;> rfl, New.im ⟨_, rfl, rs⟩⟩
  | int =>
    cases x <;> first | (cases h; done) | (rw [show p = _ from r]; cases h; exact ⟨_, M, rfl, New.im rfl⟩)
  | all =>
    cases x <;> first | (cases h; done) | skip
    obtain ⟨n, ps, e, m, rs⟩ := r
    simp only [objOf] at m
    obtain ⟨bs, e1, e2⟩ := om h
    subst e2
    rw [e]; exact ⟨_, M, by simp only [doBi, m, rs.bools e1] <;> rfl, New.im rfl⟩
  | any =>
    cases x <;> first | (cases h; done) | skip
    obtain ⟨n, ps, e, m, rs⟩ := r
    simp only [objOf] at m
    obtain ⟨bs, e1, e2⟩ := om h
    subst e2
    rw [e]; exact ⟨_, M, by simp only [doBi, m, rs.bools e1] <;> rfl, New.im rfl⟩
  | sum =>
    cases x <;> first | (cases h; done) | skip
    obtain ⟨n, ps, e, m, rs⟩ := r
    simp only [objOf] at m
    obtain ⟨bs, e1, e2⟩ := om h
    subst e2
    rw [e]; exact ⟨_, M, by simp only [doBi, m, rs.ints e1] <;> rfl, New.im rfl⟩
  | maxl =>
    cases x <;> first | (cases h; done) | skip
    obtain ⟨n, ps, e, m, rs⟩ := r
    simp only [objOf] at m
    simp only [iBi] at h
    split at h
    · rename_i e1; cases h
      rw [e]; exact ⟨_, M, by simp only [doBi, m, rs.ints e1] <;> rfl, New.im rfl⟩
    · cases h
  | minl =>
    cases x <;> first | (cases h; done) | skip
    obtain ⟨n, ps, e, m, rs⟩ := r
    simp only [objOf] at m
    simp only [iBi] at h
    split at h
    · rename_i e1; cases h
      rw [e]; exact ⟨_, M, by simp only [doBi, m, rs.ints e1] <;> rfl, New.im rfl⟩
    · cases h
  | dict =>
    cases x with
    | lst xs =>
      obtain ⟨n, ps, e, m, rs⟩ := r
      simp only [objOf] at m
      obtain ⟨d, e1, e2⟩ := om h
      subst e2
      obtain ⟨kvs, qs, a, b, c1, c2⟩ := rs.pairs (ks := []) (ys := []) (qs := []) ⟨rfl, List.nodup_nil, by simp⟩ rfl e1
      refine ⟨.loc M.length, M ++ [objOf (.dic d.1) qs], ?_, New.obj sl c1 c2⟩
      rw [e]; simp only [doBi, m, a, objOf]
      rw [← b]; rfl
    | dic ks xs =>
      obtain ⟨n, ps, e, m, o, rs⟩ := r
      cases h
      refine ⟨.loc M.length, M ++ [objOf (.dic ks) ps], ?_, New.obj sl rs o⟩
      rw [e]; simp only [objOf] at m ⊢; simp only [doBi, m]
    | _ => cases h
  | lenset =>
    cases x <;> first | (cases h; done) | skip
    obtain ⟨n, ps, e, m, rs⟩ := r
    simp only [objOf] at m
    simp only [iBi] at h
    split at h
    · rename_i ss e1
      split at h
      · rename_i hl; cases h
        rw [e]; exact ⟨_, M, by simp only [doBi, m, rs.strs e1, if_pos hl] <;> rfl, New.im rfl⟩
      · cases h
    · cases h
  | sortset =>
    obtain ⟨ss, e1, e2⟩ := om h
    subst e2
    cases e3 : iItems x with
    | none => rw [e3] at e1; cases e1
    | some xs =>
      rw [e3] at e1
      obtain ⟨ps, e4, rs⟩ := r.items e3
      exact ⟨_, _, by simp only [doBi, e4, Option.bind_some, rs.strs e1] <;> rfl, New.lst sl (RIs.of_strs _)⟩
  | sorted =>
    cases x with
    | lst xs =>
      obtain ⟨n, ps, e, m, rs⟩ := r
      simp only [objOf] at m
      obtain ⟨ss, e1, e2⟩ := om h
      subst e2
      rw [e]
      exact ⟨_, _, by simp only [doBi, m, rs.strs e1] <;> rfl, New.lst sl (RIs.of_strs _)⟩
    | dic ks xs =>
      obtain ⟨n, ps, e, m, o, rs⟩ := r
      simp only [objOf] at m
      obtain ⟨ss, e1, e2⟩ := om h
      subst e2
      have hk : strsOf (((ks.map keyPV).zip ps).map (·.1)) = some ss := by
        rw [List.map_fst_zip (by rw [List.length_map, o.1]; exact Nat.le_refl _)]
        clear m o rs h om
        induction ks generalizing ss with
        | nil => exact e1
        | cons k ks ih =>
          cases k <;> first | (cases e1; done) | skip
          simp only [iStrs] at e1
          cases h1 : iStrs ks with
          | none => rw [h1] at e1; cases e1
          | some cs =>
            rw [h1] at e1
            have := ih cs h1
            simp only [List.map_cons, keyPV, strsOf]
            rw [this]; exact e1
      rw [e]
      exact ⟨_, _, by simp only [doBi, m, hk] <;> rfl, New.lst sl (RIs.of_strs _)⟩
    | _ => cases h
  | _ => cases x <;> cases h
theorem RF.bi2 (sl : ∀ n, Sh n → n < M.length) {f : Bi} {x y : I} {p q : PV} {v : V} (r : RF M Sh x p) (s : RF M Sh y q) (h : iBi f [x, y] = some v) : ∃ w M', doBi M f [p, q] = .ok w M' ∧ New M Sh v w M' := by
  cases f with
  | max =>
    cases x <;> first | (cases h; done) | skip
    cases y <;> first | (cases h; done) | (rw [show p = _ from r, show q = _ from s]; cases h; exact ⟨_, M, rfl, New.im rfl⟩)
  | min =>
    cases x <;> first | (cases h; done) | skip
    cases y <;> first | (cases h; done) | (rw [show p = _ from r, show q = _ from s]; cases h; exact ⟨_, M, rfl, New.im rfl⟩)
  | zipl =>
    simp only [iBi] at h
    split at h
    · rename_i xs ys e1 e2
      cases h
      obtain ⟨ps, e3, rs⟩ := r.items e1
      obtain ⟨qs, e4, ss⟩ := s.items e2
      exact ⟨_, _, by simp only [doBi, e3, e4] <;> rfl, New.lst sl (rs.zip ss)⟩
    · cases h
  | zipd =>
    simp only [iBi] at h
    split at h
    · rename_i xs ys e1 e2
      obtain ⟨ps, e3, rs⟩ := r.items e1
      obtain ⟨qs, e4, ss⟩ := s.items e2
      cases e5 : iPairs ([], []) (iZip xs ys) with
      | none => rw [e5] at h; cases h
      | some d =>
        rw [e5] at h; cases h
        obtain ⟨kvs, qs, a, b, c1, c2⟩ := (rs.zip ss).pairs (ks := []) (ys := []) (qs := []) ⟨rfl, List.nodup_nil, by simp⟩ rfl e5
        refine ⟨.loc M.length, M ++ [objOf (.dic d.1) qs], ?_, New.obj sl c1 c2⟩
        simp only [doBi, e3, e4, a, objOf]
        rw [← b]; rfl
    · cases h
  | _ => cases x <;> cases y <;> cases h
end
end Wn
end
section
/-! Vs4: methods, stores, places. -/
namespace Wn
open PySem
section
variable {M : Store} {Sh : FP}
theorem RVs.append {vs ws : List V} {ps qs : List PV} {A B : FP} : RVs M Sh vs ps A → RVs M Sh ws qs B → (∀ n, A n → ¬ B n) → RVs M Sh (vs ++ ws) (ps ++ qs) (fun n => A n ∨ B n) := by
  induction vs generalizing ps A with
  | nil =>
    intro r s d
    rw [r.1]
    exact s.iff fun n => ⟨.inr, fun h => h.elim (fun h => (r.2 n h).elim) id⟩
  | cons v vs ih =>
    rintro ⟨p, ps, A1, A2, e, r, rs, d1, f⟩ s d
    rw [e]
    refine ⟨p, ps ++ qs, A1, fun n => A2 n ∨ B n, rfl, r, ih rs s (fun n h => d n ((f n).2 (.inr h))), ?_, fun n => by simp only [f n, or_assoc]⟩
    rintro n h (h2 | h2)
    · exact d1 n h h2
    · exact d n ((f n).2 (.inl h)) h2
theorem RVs.append_inv {vs ws : List V} {ps : List PV} {F : FP} (r : RVs M Sh (vs ++ ws) ps F) : ∃ (qs rs : List PV) (A B : FP), ps = qs ++ rs ∧ RVs M Sh vs qs A ∧ RVs M Sh ws rs B ∧ (∀ n, A n → ¬ B n) ∧ ∀ n, F n ↔ (A n ∨ B n) := by
  induction vs generalizing ps F with
  | nil => exact ⟨[], ps, fun _ => False, F, rfl, ⟨rfl, fun _ h => h⟩, r, fun _ h => h.elim, fun n => ⟨.inr, fun h => h.elim False.elim id⟩⟩
  | cons v vs ih =>
    obtain ⟨p, qs, A, B, e, r, rs, d, f⟩ := r
    obtain ⟨as, bs, C, D, e1, r1, r2, d2, f2⟩ := ih rs
    refine ⟨p :: as, bs, fun n => A n ∨ C n, D, by rw [e, e1]; rfl, ⟨p, as, A, C, rfl, r, r1, fun n h h2 => d n h ((f2 n).2 (.inl h2)), fun _ => Iff.rfl⟩, r2, ?_, fun n => by simp only [f n, f2 n, or_assoc]⟩
    rintro n (h | h) h2
    · exact d n h ((f2 n).2 (.inr h2))
    · exact d2 n h h2
theorem RVs.one {v : V} {p : PV} {A : FP} (r : RV M Sh v p A) : RVs M Sh [v] [p] A := ⟨p, [], A, fun _ => False, rfl, r, ⟨rfl, fun _ h => h⟩, fun _ _ h => h, fun n => ⟨.inl, fun h => h.elim id False.elim⟩⟩
theorem RVs.one_inv {v : V} {ps : List PV} {A : FP} (r : RVs M Sh [v] ps A) : ∃ p, ps = [p] ∧ RV M Sh v p A := by
  obtain ⟨p, qs, C, D, e, r, s, d, f⟩ := r
  exact ⟨p, by rw [e, s.1], r.iff fun n => by rw [f n]; exact ⟨.inl, fun h => h.elim id fun h => (s.2 n h).elim⟩⟩
theorem RVs.nil_inv {ps : List PV} {A : FP} (r : RVs M Sh [] ps A) : ps = [] := r.1
theorem RVs.perm_rev {vs : List V} : ∀ {ps : List PV} {F : FP}, RVs M Sh vs ps F → RVs M Sh vs.reverse ps.reverse F := by
  induction vs with
  | nil => intro ps F r; rw [r.1]; exact ⟨rfl, r.2⟩
  | cons v vs ih =>
    rintro ps F ⟨p, qs, A, B, e, r, rs, d, f⟩
    rw [e, List.reverse_cons, List.reverse_cons]
    exact ((ih rs).append (.one r) (fun n h h2 => d n h2 h)).iff fun n => by rw [f n]; exact or_comm
theorem RVs.im_inv {xs : List I} {ps : List PV} {F : FP} (r : RVs M Sh (xs.map .im) ps F) : RIs M Sh xs ps ∧ ∀ n, ¬ F n := by
  refine r.ims ?_
  induction xs generalizing ps F with
  | nil => rfl
  | cons x xs ih =>
    obtain ⟨p, qs, A, B, e, r, rs, d, f⟩ := r
    simp only [List.map_cons, Wn.ims, ih rs, Option.map_some]
theorem RVs.eraseAt {vs : List V} {ps : List PV} {F : FP} {k : Nat} {v : V} (r : RVs M Sh vs ps F) (h : vs[k]? = some v) : ∃ (p : PV) (A B : FP), ps[k]? = some p ∧ RV M Sh v p A ∧ RVs M Sh (vs.eraseIdx k) (ps.eraseIdx k) B ∧ (∀ n, A n → ¬ B n) ∧ ∀ n, F n ↔ (A n ∨ B n) := by
  induction vs generalizing ps F k with
  | nil => simp at h
  | cons w vs ih =>
    obtain ⟨p, qs, A, B, e, r, rs, d, f⟩ := r
    cases k with
    | zero => simp at h; subst h; exact ⟨p, A, B, by rw [e]; rfl, r, by rw [e]; exact rs, d, f⟩
    | succ k =>
      obtain ⟨q, C, D, e1, r1, r2, d2, f2⟩ := ih rs (k := k) (by simpa using h)
      refine ⟨q, C, fun n => A n ∨ D n, by rw [e]; simpa using e1, r1, ?_, ?_, ?_⟩
      · rw [e]; exact ⟨p, _, A, D, rfl, r, r2, fun n h h2 => d n h ((f2 n).2 (.inr h2)), fun _ => Iff.rfl⟩
      · rintro n h (h2 | h2)
        · exact d n h2 ((f2 n).2 (.inl h))
        · exact d2 n h h2
      · intro n; rw [f n, f2 n]
        constructor
        · rintro (h | h | h)
          · exact .inr (.inl h)
          · exact .inl h
          · exact .inr (.inr h)
        · rintro (h | h | h)
          · exact .inr (.inl h)
          · exact .inl h
          · exact .inr (.inr h)
theorem eraseLast {α : Type} (l : List α) : l.eraseIdx (l.length - 1) = l.dropLast := by
  rcases List.eq_nil_or_concat l with rfl | ⟨l, x, rfl⟩
  · rfl
  · simp [List.eraseIdx_append_of_length_le]
theorem set_self {n : Nat} {ob : MO} {o : MO} (h : M[n]? = some o) : (M.set n ob)[n]? = some ob := by
  rw [List.getElem?_set_self (List.getElem?_eq_some_iff.1 h).1]
/-- an object's children are put anew -/
theorem RV.reput {k k' : Knd} {vs vs' : List V} {n : Nat} {ps ps' : List PV} {G G' A : FP} (m : M[n]? = some (objOf k ps)) (hn : ∀ m, G' m → m ≠ n) (o : k'.ok ps'.length) (rs : RVs M Sh vs' ps' G') (hs : ¬ Sh n) : RV (M.set n (objOf k' ps')) Sh (.obj k' vs') (.loc n) (fun m => m = n ∨ G' m) :=
  ⟨n, ps', G', rfl, set_self m, o, rs.mono (fun x hx => ⟨hx, by rw [List.getElem?_set_ne]; intro e; subst e; exact hs hx⟩) (fun x hx => by rw [List.getElem?_set_ne]; exact fun e => hn x hx e.symm), fun h => hn n h rfl, fun _ => Iff.rfl⟩
theorem RV.keepSet {v : V} {p : PV} {A : FP} {n : Nat} {ob : MO} (r : RV M Sh v p A) (hs : ¬ Sh n) (hn : ¬ A n) : RV (M.set n ob) Sh v p A :=
  r.mono (fun x hx => ⟨hx, by rw [List.getElem?_set_ne]; intro e; subst e; exact hs hx⟩) (fun x hx => by rw [List.getElem?_set_ne]; intro e; subst e; exact hn hx)

/-- methods -/
theorem RF.count {x : I} {p : PV} (r : RF M Sh x p) : ∀ {ys : List I} {qs : List PV} {t : Nat}, RIs M Sh ys qs → iCount x ys = some t → countEq M p qs = some t
  | [], _, _, s, h => by rw [show _ = [] from s]; exact h
  | y :: ys, _, t, ⟨q, qs, e, s, ss⟩, h => by
    simp only [iCount] at h
    cases h1 : iEq y x with
    | none => rw [h1] at h; cases h
    | some b =>
      cases h2 : iCount x ys with
      | none => rw [h1, h2] at h; cases h
      | some c =>
        rw [h1, h2] at h
        rw [e, countEq, s.rf.eq r h1, r.count ss h2]; exact h
theorem RF.index {x : I} {p : PV} (r : RF M Sh x p) : ∀ {ys : List I} {qs : List PV} {t : Nat}, RIs M Sh ys qs → iIndex x ys = some t → indexEq M p qs = some t
  | [], _, _, s, h => by cases h
  | y :: ys, _, t, ⟨q, qs, e, s, ss⟩, h => by
    simp only [iIndex] at h
    cases h1 : iEq y x with
    | none => rw [h1] at h; cases h
    | some b =>
      rw [h1] at h
      rw [e, indexEq, s.rf.eq r h1]
      cases b with
      | true => exact h
      | false =>
        simp only at h ⊢
        cases h2 : iIndex x ys with
        | none => rw [h2] at h; cases h
        | some c => rw [h2] at h; rw [r.index ss h2]; exact h
theorem RF.bm {m : Bm} {x : I} {p : PV} {args : List I} {ps : List PV} {y : I} (r : RF M Sh x p) (rs : RIs M Sh args ps) (h : iBm m x args = some y) : ∃ q, doBm M m p ps = .ok q M ∧ RI M Sh y q := by
  have om : ∀ {o : Option Nat}, (o.map fun (k : Nat) => I.int (k : Int)) = some y → ∃ a : Nat, o = some a ∧ I.int a = y := by
    intro o h; cases o with
    | none => cases h
    | some a => cases h; exact ⟨a, rfl, rfl⟩
  cases m with
  | count =>
    cases x <;> first | (cases h; done) | skip
    obtain ⟨n, qs, e, mm, ss⟩ := r
    simp only [objOf] at mm
    match args, rs, h with
    | [v], ⟨pv, t, e1, r1, e2⟩, h =>
      obtain ⟨a, h1, h2⟩ := om h
      subst h2
      rw [e, e1, show t = [] from e2]
      exact ⟨.int a, by simp only [doBm, mm, r1.rf.count ss h1], rfl⟩
  | index =>
    cases x <;> first | (cases h; done) | skip
    obtain ⟨n, qs, e, mm, ss⟩ := r
    simp only [objOf] at mm
    match args, rs, h with
    | [v], ⟨pv, t, e1, r1, e2⟩, h =>
      obtain ⟨a, h1, h2⟩ := om h
      subst h2
      rw [e, e1, show t = [] from e2]
      exact ⟨.int a, by simp only [doBm, mm, r1.rf.index ss h1], rfl⟩
  | get =>
    cases x <;> first | (cases h; done) | skip
    rename_i ks vs
    obtain ⟨n, qs, e, mm, o, ss⟩ := r
    simp only [objOf] at mm
    match args, rs, h with
    | [k, d], ⟨pk, t, e1, r1, pd, t2, e2, r2, e3⟩, h =>
      simp only [iBm] at h
      cases hk : iKey k with
      | false => rw [hk] at h; cases h
      | true =>
        rw [hk, if_pos rfl] at h
        obtain ⟨ek, ik⟩ := r1.key hk
        rw [e, e1, e2, show t2 = [] from e3]
        simp only [doBm, mm, ik, if_true, ek]
        have ik' : isKey (keyPV k) = true := by rw [← ek]; exact ik
        rw [if_pos ik', lookup_zip hk o.2.2]
        cases hj : keyIx k ks with
        | none => rw [hj] at h; cases h; exact ⟨pd, rfl, r2⟩
        | some j =>
          rw [hj] at h
          simp only [Option.bind_some] at h ⊢
          cases hv : vs[j]? with
          | none =>
            rw [hv] at h; cases h
            have : qs[j]? = none := by rw [List.getElem?_eq_none_iff] at hv ⊢; rw [ss.length]; exact hv
            rw [this]; exact ⟨pd, rfl, r2⟩
          | some w =>
            rw [hv] at h; cases h
            obtain ⟨q, hq, rq⟩ := ss.get hv
            rw [hq]; exact ⟨q, rfl, rq⟩
  | _ => cases x <;> cases h
theorem vBm_ok {m : Bm} {o o2 r : V} {q : PV} {vs : List V} {ps : List PV} {A D : FP} (ro : RV M Sh o q A) (rs : RVs M Sh vs ps D) (dis : ∀ n, A n → ¬ D n) (ok : Ok M Sh fun n => A n ∨ D n) (h : vBm m o vs = some (o2, r)) :
    ∃ (pr : PV) (M' : Store) (A' R' : FP), doBm M m q ps = .ok pr M' ∧ RV M' Sh o2 q A' ∧ RV M' Sh r pr R' ∧ (∀ n, A' n → ¬ R' n) ∧ (∀ n, (A' n ∨ R' n) → A n ∨ D n) ∧ (M' = M ∨ ∃ n ob, A n ∧ M' = M.set n ob) := by
  have hr : ∀ {p : PV} {x : I}, RI M Sh x p → ∀ ob n, ¬ Sh n → RV (M.set n ob) Sh (.im x) p fun _ => False := fun r ob n hs => RV.keepSet (A := fun _ => False) ⟨r, fun _ h => h⟩ hs fun h => h
  have read : ∀ {mm : Bm} {args : List I} {D' : FP}, vs = args.map .im → (o.flat.bind fun x => (iBm mm x args).map fun r => (o, V.im r)) = some (o2, r) → mm = m → ∃ (pr : PV) (M' : Store) (A' R' : FP), doBm M m q ps = .ok pr M' ∧ RV M' Sh o2 q A' ∧ RV M' Sh r pr R' ∧ (∀ n, A' n → ¬ R' n) ∧ (∀ n, (A' n ∨ R' n) → A n ∨ D n) ∧ (M' = M ∨ ∃ n ob, A n ∧ M' = M.set n ob) := by
    intro mm args _ ev hq e
    subst e
    cases hx : o.flat with
    | none => rw [hx] at hq; cases hq
    | some x =>
      rw [hx] at hq
      simp only [Option.bind_some] at hq
      cases hy : iBm mm x args with
      | none => rw [hy] at hq; cases hq
      | some y =>
        rw [hy] at hq
        simp only [Option.map_some, Option.some.injEq, Prod.mk.injEq] at hq
        obtain ⟨rfl, rfl⟩ := hq
        rw [ev] at rs
        obtain ⟨w, e1, r1⟩ := (ro.rf hx).bm rs.im_inv.1 hy
        exact ⟨w, M, A, fun _ => False, e1, ro, ⟨r1, fun _ h => h⟩, fun _ _ h => h, fun n h => .inl (h.elim id False.elim), .inl rfl⟩
  simp only [vBm] at h
  split at h
  · -- append
    rename_i xs v
    split at h
    · rename_i hb
      cases h
      obtain ⟨n, qs, G, e, mm, k, rx, hn, f⟩ := ro
      obtain ⟨p, e1, r1⟩ := rs.one_inv
      simp only [objOf] at mm
      have hs := ok.ns n (.inl ((f n).2 (.inl rfl)))
      have hD : ∀ x, (G x ∨ D x) → x ≠ n := by
        rintro x (h | h) e
        · subst e; exact hn h
        · subst e; exact dis x ((f x).2 (.inl rfl)) h
      refine ⟨.non, M.set n (.lst (qs ++ [p])), fun x => x = n ∨ (G x ∨ D x), fun _ => False, ?_, ?_, hr (x := .non) rfl _ _ hs, fun _ _ h => h, ?_, .inr ⟨n, _, (f n).2 (.inl rfl), rfl⟩⟩
      · rw [e, e1]; simp only [doBm, mm]; exact if_pos (by rw [rx.length]; exact hb)
      · rw [e]
        exact RV.reput (k := .lst) (k' := .lst) (ps := qs) mm hD trivial (rx.append (.one r1) fun x h h2 => dis x ((f x).2 (.inr h)) h2) hs (G := G) (A := A) (vs := xs)
      · rintro x ((h | h | h) | h)
        · exact .inl ((f x).2 (.inl h))
        · exact .inl ((f x).2 (.inr h))
        · exact .inr h
        · exact h.elim
    · cases h
  · -- extend
    rename_i xs v
    split at h
    · rename_i ys hv
      split at h
      · rename_i hb
        cases h
        obtain ⟨n, qs, G, e, mm, k, rx, hn, f⟩ := ro
        obtain ⟨p, e1, r1⟩ := rs.one_inv
        obtain ⟨n2, qs2, e2, mm2, ry⟩ := r1.rf hv
        simp only [objOf] at mm mm2
        have hs := ok.ns n (.inl ((f n).2 (.inl rfl)))
        have hD : ∀ x, (G x ∨ False) → x ≠ n := by
          rintro x (h | h) e
          · subst e; exact hn h
          · exact h
        refine ⟨.non, M.set n (.lst (qs ++ qs2)), fun x => x = n ∨ (G x ∨ False), fun _ => False, ?_, ?_, hr (x := .non) rfl _ _ hs, fun _ _ h => h, ?_, .inr ⟨n, _, (f n).2 (.inl rfl), rfl⟩⟩
        · rw [e, e1, e2]; simp only [doBm, mm, mm2]; exact if_pos (by rw [rx.length, ry.length]; exact hb)
        · rw [e]
          exact RV.reput (k := .lst) (k' := .lst) (ps := qs) mm hD trivial (rx.append (RVs.of_ims ry fun _ h => h) fun _ _ h => h) hs (G := G) (A := A) (vs := xs)
        · rintro x ((h | h | h) | h)
          · exact .inl ((f x).2 (.inl h))
          · exact .inl ((f x).2 (.inr h))
          · exact h.elim
          · exact h.elim
      · cases h
    · cases h
  · -- pop
    rename_i xs
    split at h
    · rename_i y hy
      cases h
      obtain ⟨n, qs, G, e, mm, k, rx, hn, f⟩ := ro
      rw [rs.nil_inv]
      simp only [objOf] at mm
      have hs := ok.ns n (.inl ((f n).2 (.inl rfl)))
      obtain ⟨w, Ay, B, e3, r3, r4, d3, f3⟩ := rx.eraseAt hy
      rw [eraseLast, show xs.length - 1 = qs.length - 1 by rw [rx.length], eraseLast] at r4
      rw [show xs.length - 1 = qs.length - 1 by rw [rx.length]] at e3
      have hGn : ∀ x, G x → x ≠ n := by intro x h e; subst e; exact hn h
      refine ⟨w, M.set n (.lst qs.dropLast), fun x => x = n ∨ B x, Ay, ?_, ?_, r3.keepSet hs (fun h => hn ((f3 n).2 (.inl h))), ?_, ?_, .inr ⟨n, _, (f n).2 (.inl rfl), rfl⟩⟩
      · rw [e]; simp only [doBm, mm, e3]
      · rw [e]
        exact RV.reput (k := .lst) (k' := .lst) (ps := qs) mm (fun x h => hGn x ((f3 x).2 (.inr h))) trivial r4 hs (G := G) (A := A) (vs := xs)
      · rintro x (h | h) h2
        · subst h; exact hn ((f3 x).2 (.inl h2))
        · exact d3 x h2 h
      · rintro x ((h | h) | h)
        · exact .inl ((f x).2 (.inl h))
        · exact .inl ((f x).2 (.inr ((f3 x).2 (.inr h))))
        · exact .inl ((f x).2 (.inr ((f3 x).2 (.inl h))))
    · cases h
  · -- clear
    rename_i xs
    cases h
    obtain ⟨n, qs, G, e, mm, k, rx, hn, f⟩ := ro
    rw [rs.nil_inv]
    simp only [objOf] at mm
    have hs := ok.ns n (.inl ((f n).2 (.inl rfl)))
    refine ⟨.non, M.set n (.lst []), fun x => x = n ∨ False, fun _ => False, ?_, ?_, hr (x := .non) rfl _ _ hs, fun _ _ h => h, ?_, .inr ⟨n, _, (f n).2 (.inl rfl), rfl⟩⟩
    · rw [e]; simp only [doBm, mm]
    · rw [e]
      exact RV.reput (k := .lst) (k' := .lst) (ps := qs) mm (fun x h => h.elim) trivial ⟨rfl, fun _ h => h⟩ hs (G := G) (A := A) (vs := xs)
    · rintro x ((h | h) | h)
      · exact .inl ((f x).2 (.inl h))
      · exact h.elim
      · exact h.elim
  · -- reverse
    rename_i xs
    cases h
    obtain ⟨n, qs, G, e, mm, k, rx, hn, f⟩ := ro
    rw [rs.nil_inv]
    simp only [objOf] at mm
    have hs := ok.ns n (.inl ((f n).2 (.inl rfl)))
    refine ⟨.non, M.set n (.lst qs.reverse), fun x => x = n ∨ G x, fun _ => False, ?_, ?_, hr (x := .non) rfl _ _ hs, fun _ _ h => h, ?_, .inr ⟨n, _, (f n).2 (.inl rfl), rfl⟩⟩
    · rw [e]; simp only [doBm, mm]
    · rw [e]
      exact RV.reput (k := .lst) (k' := .lst) (ps := qs) mm (fun x h e => by subst e; exact hn h) trivial rx.perm_rev hs (G := G) (A := A) (vs := xs)
    · rintro x (h | h)
      · exact .inl ((f x).2 h)
      · exact h.elim
  · -- popAt
    rename_i xs i
    split at h
    · rename_i kk hkk
      split at h
      · rename_i y hy
        cases h
        obtain ⟨n, qs, G, e, mm, k, rx, hn, f⟩ := ro
        obtain ⟨p, e1, r1, _⟩ := rs.one_inv
        rw [show p = _ from r1] at e1
        simp only [objOf] at mm
        have hs := ok.ns n (.inl ((f n).2 (.inl rfl)))
        obtain ⟨w, Ay, B, e3, r3, r4, d3, f3⟩ := rx.eraseAt hy
        have hGn : ∀ x, G x → x ≠ n := by intro x h e; subst e; exact hn h
        refine ⟨w, M.set n (.lst (qs.eraseIdx kk)), fun x => x = n ∨ B x, Ay, ?_, ?_, r3.keepSet hs (fun h => hn ((f3 n).2 (.inl h))), ?_, ?_, .inr ⟨n, _, (f n).2 (.inl rfl), rfl⟩⟩
        · rw [e, e1]; simp only [doBm, mm, rx.length, hkk, e3]
        · rw [e]
          exact RV.reput (k := .lst) (k' := .lst) (ps := qs) mm (fun x h => hGn x ((f3 x).2 (.inr h))) trivial r4 hs (G := G) (A := A) (vs := xs)
        · rintro x (h | h) h2
          · subst h; exact hn ((f3 x).2 (.inl h2))
          · exact d3 x h2 h
        · rintro x ((h | h) | h)
          · exact .inl ((f x).2 (.inl h))
          · exact .inl ((f x).2 (.inr ((f3 x).2 (.inr h))))
          · exact .inl ((f x).2 (.inr ((f3 x).2 (.inl h))))
      · cases h
    · cases h
  · -- insert
    rename_i xs i v
    split at h
    · rename_i hb
      cases h
      obtain ⟨n, qs, G, e, mm, k, rx, hn, f⟩ := ro
      obtain ⟨pi, t, A1, A2, e1, r1, ⟨pv, t2, B1, B2, e2, r2, e3, d2, f2⟩, d1, f1⟩ := rs
      simp only [objOf] at mm
      have hs := ok.ns n (.inl ((f n).2 (.inl rfl)))
      have rx' := rx
      rw [← List.take_append_drop i.toNat xs] at rx'
      obtain ⟨as, bs, C1, C2, e4, ra, rb, dd, ff⟩ := rx'.append_inv
      have hl : as.length = i.toNat := by rw [ra.length, List.length_take]; omega
      have e5 : qs.take i.toNat = as := by rw [e4, ← hl]; simp
      have e6 : qs.drop i.toNat = bs := by rw [e4, ← hl]; simp
      have hBD : ∀ x, B1 x → D x := fun x h => (f1 x).2 (.inr ((f2 x).2 (.inl h)))
      refine ⟨.non, M.set n (.lst (as ++ pv :: bs)), fun x => x = n ∨ (C1 x ∨ (B1 x ∨ C2 x)), fun _ => False, ?_, ?_, hr (x := .non) rfl _ _ hs, fun _ _ h => h, ?_, .inr ⟨n, _, (f n).2 (.inl rfl), rfl⟩⟩
      · rw [e, e1, e2, e3.1, show pi = _ from r1.1]; simp only [doBm, mm]
        rw [if_pos (by rw [rx.length]; exact hb), e5, e6]
      · rw [e]
        refine RV.reput (k := .lst) (k' := .lst) (ps := qs) mm ?_ trivial (ra.append ⟨pv, bs, B1, C2, rfl, r2, rb, fun x h h2 => dis x ((f x).2 (.inr ((ff x).2 (.inr h2)))) (hBD x h), fun _ => Iff.rfl⟩ ?_) hs (G := G) (A := A) (vs := xs)
        · rintro x (h | h | h) e
          · subst e; exact hn ((ff x).2 (.inl h))
          · subst e; exact dis x ((f x).2 (.inl rfl)) (hBD x h)
          · subst e; exact hn ((ff x).2 (.inr h))
        · rintro x h (h2 | h2)
          · exact dis x ((f x).2 (.inr ((ff x).2 (.inl h)))) (hBD x h2)
          · exact dd x h h2
      · rintro x ((h | h | h | h) | h)
        · exact .inl ((f x).2 (.inl h))
        · exact .inl ((f x).2 (.inr ((ff x).2 (.inl h))))
        · exact .inr (hBD x h)
        · exact .inl ((f x).2 (.inr ((ff x).2 (.inr h))))
        · exact h.elim
    · cases h
  · exact read (args := [_]) (D' := D) rfl h rfl
  · exact read (args := [_]) (D' := D) rfl h rfl
  · exact read (args := [_, _]) (D' := D) rfl h rfl
  · cases h
theorem vBmOk_ok {m : Bm} {o : V} {q : PV} {A : FP} (r : RV M Sh o q A) (h : vBmOk m o = true) : bmOk M m q = true := by
  simp only [vBmOk] at h
  split at h
  · obtain ⟨n, qs, G, e, mm, _⟩ := r
    simp only [objOf] at mm
    rw [e]; simp only [bmOk, mm]; exact h
  · obtain ⟨⟨n, qs, e, _, mm, _⟩, _⟩ := r
    simp only [objOf] at mm
    rw [e]; simp only [bmOk, mm]; exact h
  · obtain ⟨n, qs, G, e, mm, _⟩ := r
    simp only [objOf] at mm
    rw [e]; simp only [bmOk, mm]; exact h
  · obtain ⟨⟨n, qs, e, _, mm, _⟩, _⟩ := r
    simp only [objOf] at mm
    rw [e]; simp only [bmOk, mm]; exact h
  · cases h
end
end Wn
end
section
/-! Vs5: stores, places, and how evaluations go on behind one another. -/
namespace Wn
open PySem
section
variable {M : Store} {Sh : FP}
theorem RVs.setAt {vs : List V} {ps : List PV} {G D : FP} {j : Nat} {v : V} {p : PV} (r : RVs M Sh vs ps G) (hj : j < vs.length) (s : RV M Sh v p D) (d : ∀ n, G n → ¬ D n) : ∃ G' : FP, RVs M Sh (vs.set j v) (ps.set j p) G' ∧ ∀ n, G' n → G n ∨ D n := by
  obtain ⟨q, A, B, e1, r1, d1, f1, k1⟩ := r.at (List.getElem?_eq_getElem hj)
  exact ⟨_, k1 M Sh v p D (fun n h => ⟨h, rfl⟩) (fun _ _ => rfl) s (fun n h h2 => d n ((f1 n).2 (.inr h2)) h), fun n h => h.elim .inr fun h => .inl ((f1 n).2 (.inr h))⟩
theorem vSet_ok {o o2 v : V} {k : I} {q pk pv : PV} {A D : FP} (ro : RV M Sh o q A) (rk : RI M Sh k pk) (rv : RV M Sh v pv D) (dis : ∀ n, A n → ¬ D n) (ok : Ok M Sh fun n => A n ∨ D n) (h : vSet o k v = some o2) :
    ∃ (n : Nat) (ob : MO) (A' : FP), q = .loc n ∧ A n ∧ RV (M.set n ob) Sh o2 q A' ∧ (∀ n, A' n → A n ∨ D n) ∧
      ((∃ (xs : List PV) (i : Int) (j : Nat), M[n]? = some (.lst xs) ∧ pk = .int i ∧ ixOf xs.length i = some j ∧ ob = .lst (xs.set j pv)) ∨ (∃ kvs, M[n]? = some (.dic kvs) ∧ (isKey pk && decide (kvs.length < big)) = true ∧ ob = .dic (putD pk pv kvs))) := by
  simp only [vSet] at h
  split at h
  · rename_i vs i
    obtain ⟨n, qs, G, e, mm, _, rx, hn, f⟩ := ro
    simp only [objOf] at mm
    have hs := ok.ns n (.inl ((f n).2 (.inl rfl)))
    cases hj : ixOf vs.length i with
    | none => rw [hj] at h; cases h
    | some j =>
      rw [hj] at h; cases h
      have hl : j < vs.length := by
        simp only [ixOf] at hj
        split at hj
        · split at hj
          · cases hj; omega
          · cases hj
        · split at hj
          · cases hj; omega
          · cases hj
      obtain ⟨G', rG, sG⟩ := rx.setAt hl rv (fun x h h2 => dis x ((f x).2 (.inr h)) h2)
      refine ⟨n, .lst (qs.set j pv), fun x => x = n ∨ G' x, e, (f n).2 (.inl rfl), ?_, ?_, .inl ⟨qs, i, j, mm, rk, by rw [rx.length]; exact hj, rfl⟩⟩
      · rw [e]
        refine RV.reput (k := .lst) (k' := .lst) (ps := qs) mm (fun x h e => ?_) trivial rG hs (G := G) (A := A) (vs := vs)
        subst e
        exact (sG x h).elim hn fun h => dis x ((f x).2 (.inl rfl)) h
      · rintro x (h | h)
        · exact .inl ((f x).2 (.inl h))
        · exact (sG x h).elim (fun h => .inl ((f x).2 (.inr h))) .inr
  · rename_i _k0 ks vs
    obtain ⟨n, qs, G, e, mm, ko, rx, hn, f⟩ := ro
    have hs := ok.ns n (.inl ((f n).2 (.inl rfl)))
    split at h
    · rename_i hc
      simp only [Bool.and_eq_true, decide_eq_true_eq] at hc
      cases h
      obtain ⟨ek, ik⟩ := rk.key hc.1
      have ko' := putV_ok (v := pv) hc.1 ko
      rw [show (putV k pv (ks, qs)).1 = (putV k v (ks, vs)).1 from putV_len] at ko'
      have hz := putD_zip hc.1 (v := pv) ko.2.2 ko.2.1 ko.1
      rw [show (putV k pv (ks, qs)).1 = (putV k v (ks, vs)).1 from putV_len] at hz
      obtain ⟨G', rG, sG⟩ : ∃ G' : FP, RVs M Sh (putV k v (ks, vs)).2 (putV k pv (ks, qs)).2 G' ∧ ∀ n, G' n → G n ∨ D n := by
        simp only [putV]
        cases hj : keyIx k ks with
        | none => exact ⟨_, rx.append (.one rv) fun x h h2 => dis x ((f x).2 (.inr h)) h2, fun _ h => h⟩
        | some j =>
          have := (keyIx_lt hj).1
          exact rx.setAt (by rw [ko.1, rx.length] at this; exact this) rv (fun x h h2 => dis x ((f x).2 (.inr h)) h2)
      refine ⟨n, objOf (.dic (putV k v (ks, vs)).1) (putV k pv (ks, qs)).2, fun x => x = n ∨ G' x, e, (f n).2 (.inl rfl), ?_, ?_, .inr ⟨_, mm, ?_, ?_⟩⟩
      · rw [e]
        refine RV.reput (k := .dic ks) (ps := qs) mm (fun x h e => ?_) ko' rG hs (G := G) (A := A) (vs := vs)
        subst e
        exact (sG x h).elim hn fun h => dis x ((f x).2 (.inl rfl)) h
      · rintro x (h | h)
        · exact .inl ((f x).2 (.inl h))
        · exact (sG x h).elim (fun h => .inl ((f x).2 (.inr h))) .inr
      · rw [ik]; simp only [Bool.true_and, decide_eq_true_eq, List.length_zip, List.length_map]
        have := hc.2; omega
      · rw [ek, hz]; rfl
    · cases h
  · cases h
theorem anyF_zip {k : Str} : ∀ {ks : List Str} {ps : List PV}, ks.length = ps.length → ((ks.zip ps).any fun p => decide (p.1 = k)) = decide (k ∈ ks)
  | [], [], _ => by simp
  | x :: ks, p :: ps, l => by
    have ih := anyF_zip (k := k) (ks := ks) (ps := ps) (by simpa using l)
    simp only [List.zip_cons_cons, List.any_cons, ih]
    by_cases e : x = k
    · subst e; simp
    · simp [e, Ne.symm e]
theorem mapF_zip_put {k : Str} {v : PV} : ∀ {ks : List Str} {ps : List PV} {j : Nat}, ks.Nodup → ks.length = ps.length → fldIx k ks = some j → ((ks.zip ps).map fun p => if p.1 = k then (p.1, v) else p) = ks.zip (ps.set j v)
  | x :: ks, p :: ps, j, nd, l, e => by
    have hn : ∀ {ks : List Str} {ps : List PV}, k ∉ ks → ((ks.zip ps).map fun p => if p.1 = k then (p.1, v) else p) = ks.zip ps := by
      intro ks ps hk'
      induction ks generalizing ps with
      | nil => rfl
      | cons y ks ih =>
        cases ps with
        | nil => rfl
        | cons q ps =>
          simp only [List.zip_cons_cons, List.map_cons]
          rw [if_neg (fun z => hk' (by rw [z]; exact List.mem_cons_self ..)), ih (fun z => hk' (List.mem_cons_of_mem _ z))]
    have nd' := List.nodup_cons.1 nd
    simp only [fldIx] at e
    by_cases he : x = k
    · rw [if_pos he] at e; cases e
      subst he
      simp only [List.zip_cons_cons, List.set_cons_zero, List.map_cons]
      rw [if_pos trivial, hn nd'.1]
    · rw [if_neg he] at e
      cases h1 : fldIx k ks with
      | none => rw [h1] at e; cases e
      | some i =>
        rw [h1] at e; cases e
        have ih := mapF_zip_put (v := v) (ks := ks) (ps := ps) (j := i) nd'.2 (by simpa using l) h1
        simp only [List.zip_cons_cons, List.set_cons_succ, List.map_cons]
        rw [if_neg he, ih]
theorem vSetF_ok {o o2 v : V} {fl : Str} {q pv : PV} {A D : FP} (ro : RV M Sh o q A) (rv : RV M Sh v pv D) (dis : ∀ n, A n → ¬ D n) (ok : Ok M Sh fun n => A n ∨ D n) (h : vSetF o fl v = some o2) :
    ∃ (n : Nat) (C : Str) (fs : List (Str × PV)) (A' : FP), q = .loc n ∧ A n ∧ M[n]? = some (.ins C fs) ∧ RV (M.set n (.ins C (putF fl pv fs))) Sh o2 q A' ∧ (∀ n, A' n → A n ∨ D n) := by
  cases o with
  | obj k vs =>
    cases k with
    | ins C fs =>
      obtain ⟨n, qs, G, e, mm, ko, rx, hn, f⟩ := ro
      have hs := ok.ns n (.inl ((f n).2 (.inl rfl)))
      have hG : ∀ (G' : FP), (∀ n, G' n → G n ∨ D n) → ∀ m, G' m → m ≠ n := by
        intro G' sG x h e
        subst e
        exact (sG x h).elim hn fun h => dis x ((f x).2 (.inl rfl)) h
      have hA : ∀ (G' : FP), (∀ n, G' n → G n ∨ D n) → ∀ x, (x = n ∨ G' x) → A x ∨ D x := by
        rintro G' sG x (h | h)
        · exact .inl ((f x).2 (.inl h))
        · exact (sG x h).elim (fun h => .inl ((f x).2 (.inr h))) .inr
      simp only [vSetF, Option.some.injEq] at h
      cases hj : fldIx fl fs with
      | none =>
        rw [hj] at h
        subst h
        have rx' := rx.append (.one rv) fun x h h2 => dis x ((f x).2 (.inr h)) h2
        refine ⟨n, C, fs.zip qs, _, e, (f n).2 (.inl rfl), mm, ?_, hA _ fun _ h => h⟩
        have hz : putF fl pv (fs.zip qs) = (fs ++ [fl]).zip (qs ++ [pv]) := by
          simp only [putF, anyF_zip ko.1]
          rw [if_neg (by simpa using fldIx_none.1 hj), List.zip_append ko.1]; rfl
        rw [hz, e]
        refine RV.reput (k := .ins C fs) (k' := .ins C (fs ++ [fl])) (ps := qs) mm (hG _ fun _ h => h) ⟨by simp [ko.1], ?_⟩ rx' hs (G := G) (A := A) (vs := vs)
        rw [List.nodup_append]
        exact ⟨ko.2, by simp, fun a ha b hb => by simp at hb; subst hb; intro z; subst z; exact fldIx_none.1 hj ha⟩
      | some j =>
        rw [hj] at h
        subst h
        have hl := (fldIx_lt hj).1
        obtain ⟨G', rG, sG⟩ := rx.setAt (j := j) (by rw [ko.1, rx.length] at hl; exact hl) rv (fun x h h2 => dis x ((f x).2 (.inr h)) h2)
        refine ⟨n, C, fs.zip qs, _, e, (f n).2 (.inl rfl), mm, ?_, hA G' sG⟩
        have hz : putF fl pv (fs.zip qs) = fs.zip (qs.set j pv) := by
          simp only [putF, anyF_zip ko.1]
          rw [if_pos (by simpa using List.mem_of_getElem? (fldIx_lt hj).2)]
          exact mapF_zip_put ko.2 ko.1 hj
        rw [hz, e]
        exact RV.reput (k := .ins C fs) (k' := .ins C fs) (ps := qs) mm (hG G' sG) ⟨by simpa using ko.1, ko.2⟩ rG hs (G := G) (A := A) (vs := vs)
    | _ => cases h
  | _ => cases h

/-! ### places -/
theorem atP_snoc {p : PV} {js : List Nat} {j : Nat} : atP M p (js ++ [j]) = (atP M p js).bind fun q => (kidsP M q).bind fun ps => ps[j]? := by
  induction js generalizing p with
  | nil =>
    simp only [List.nil_append, atP, Option.bind_some]
    cases kidsP M p with
    | none => rfl
    | some ps => simp only [Option.bind_some]; cases ps[j]? <;> rfl
  | cons i js ih =>
    simp only [List.cons_append, atP]
    cases kidsP M p with
    | none => rfl
    | some ps =>
      simp only
      cases ps[i]? with
      | none => rfl
      | some q => exact ih
theorem kidsP_mono {M M' : Store} (h : ∀ n, n < M.length → M'[n]? = M[n]?) {p : PV} {ps : List PV} (e : kidsP M p = some ps) : kidsP M' p = some ps := by
  cases p with
  | loc n =>
    simp only [kidsP] at e ⊢
    cases hn : M[n]? with
    | none => rw [hn] at e; cases e
    | some o => rw [h n (List.getElem?_eq_some_iff.1 hn).1]; exact e
  | _ => exact e
theorem atP_mono {M M' : Store} (h : ∀ n, n < M.length → M'[n]? = M[n]?) {p q : PV} {js : List Nat} (e : atP M p js = some q) : atP M' p js = some q := by
  induction js generalizing p with
  | nil => exact e
  | cons j js ih =>
    simp only [atP] at e ⊢
    cases hk : kidsP M p with
    | none => rw [hk] at e; cases e
    | some ps =>
      rw [hk] at e
      rw [kidsP_mono h hk]
      simp only at e ⊢
      cases hj : ps[j]? with
      | none => rw [hj] at e; cases e
      | some r => rw [hj] at e; exact ih e
end

/-- the two contexts belong together -/
def ROk (r : RO) (args : List V) (g : List PV → Store → Res PV) : Prop := ∀ (M : Store) (Sh : FP) (ps : List PV) (G : FP), RVs M Sh args ps G → Ok M Sh G → match r with
  | .ok v outs => ∃ (p : PV) (M' : Store) (Sh' A B : FP), g ps M = .ok p M' ∧ RV M' Sh' v p A ∧ RVs M' Sh' outs ps B ∧ (∀ n, A n → ¬ B n) ∧ Stp M Sh G M' Sh' (fun n => A n ∨ B n)
  | .err C fs vs outs => ∃ (qs : List PV) (M' : Store) (Sh' B : FP), g ps M = .err ⟨C, fs, qs⟩ M' ∧ fs.length = vs.length ∧ RIs M' Sh' vs qs ∧ RVs M' Sh' outs ps B ∧ Stp M Sh G M' Sh' B
  | .bad => True
structure Lnk (c : VC) (d : Ctx) : Prop where
  call : ∀ f args, ROk (c.call f args) args (d.call f)
  make : ∀ C args, ROk (c.make C args) args (d.make C)
  meth : ∀ C m args, ROk (c.meth C m args) args (d.meth C m)
  glo : ∀ x i, c.glo x = some i → ∃ p, d.glo x = some p ∧ ∀ M Sh, RI M Sh i p
  wf : c.wf = d.wf
  sub : c.sub = d.sub
  exc : c.exc = d.exc

section
variable {c : VC} {d : Ctx} (L : Lnk c d) {M : Store} {Sh F : FP} {E : VE} {Ep : Env}
theorem RE.var {i : Nat} {x : V} (r : RE M Sh E Ep F) (h : E[i]? = some x) (hg : x ≠ .gone) : ∃ p, Ep[i]? = some (some p) := by
  obtain ⟨p, _, _, _, e, _⟩ := r.peek (i := i) (js := []) (w := x) (by simp only [peekE, h, V.peek]) hg
  exact ⟨p, e⟩
include L in
theorem sEv_ok (r : RE M Sh E Ep F) : ∀ (e : Ex) {x : I}, sEv c E e = some x → ∃ p, evE d e Ep M = .ok p M ∧ RI M Sh x p
  | .var i, x, h => by
    simp only [sEv] at h
    split at h
    · rename_i y hy
      cases h
      obtain ⟨p, q, A, B, e1, e2, r1, _⟩ := r.peek (i := i) (js := []) (w := .im x) (by simp only [peekE, hy, V.peek]) (fun h => by cases h)
      cases e2
      exact ⟨p, by simp only [evE, e1], r1.1⟩
    · cases h
  | .int i, x, h => by cases h; exact ⟨_, rfl, rfl⟩
  | .str i, x, h => by cases h; exact ⟨_, rfl, rfl⟩
  | .glo y, x, h => by
    obtain ⟨p, e, q⟩ := L.glo y x h
    exact ⟨p, by simp only [evE, e], q M Sh⟩
  | .neg a, x, h => by
    simp only [sEv] at h
    split at h
    · rename_i i hi
      cases h
      obtain ⟨p, e, q⟩ := sEv_ok r a hi
      exact ⟨_, by simp only [evE, e, Res.bind_ok, show p = _ from q], rfl⟩
    · cases h
  | .bin o a b, x, h => by
    cases o with
    | add =>
      simp only [sEv] at h
      split at h
      · rename_i i j hi hj
        cases h
        obtain ⟨p, e, q⟩ := sEv_ok r a hi
        obtain ⟨p2, e2, q2⟩ := sEv_ok r b hj
        exact ⟨_, by simp only [evE, e, e2, Res.bind_ok, show p = _ from q, show p2 = _ from q2, doBin], rfl⟩
      · cases h
    | sub =>
      simp only [sEv] at h
      split at h
      · rename_i i j hi hj
        cases h
        obtain ⟨p, e, q⟩ := sEv_ok r a hi
        obtain ⟨p2, e2, q2⟩ := sEv_ok r b hj
        exact ⟨_, by simp only [evE, e, e2, Res.bind_ok, show p = _ from q, show p2 = _ from q2, doBin], rfl⟩
      · cases h
    | _ => cases h
  | .idx a b, x, h => by
    simp only [sEv] at h
    split at h
    · rename_i y z hi hj
      obtain ⟨p, e, q⟩ := sEv_ok r a hi
      obtain ⟨p2, e2, q2⟩ := sEv_ok r b hj
      obtain ⟨w, e3, q3⟩ := q.rf.idx q2.rf h
      exact ⟨w, by simp only [evE, e, e2, Res.bind_ok, e3, lift], q3⟩
    · cases h
include L in
theorem plc_ok (r : RE M Sh E Ep F) : ∀ (e : Ex) {i : Nat} {js : List Nat} {w : V}, plc c E e = some (i, js) → peekE E i js = some w → w ≠ .gone → ∃ p q, Ep[i]? = some (some p) ∧ atP M p js = some q ∧ evE d e Ep M = .ok q M
  | .var i, i', js, w, h, hp, hg => by
    cases h
    obtain ⟨p, q, A, B, e1, e2, r1, _⟩ := r.peek hp hg
    cases e2
    exact ⟨p, p, e1, rfl, by simp only [evE, e1]⟩
  | .fld a f, i, js, w, h, hp, hg => by
    simp only [plc] at h
    split at h
    · rename_i i0 js0 h0
      split at h
      · rename_i C fs vs hv
        cases hj : fldIx f fs with
        | none => rw [hj] at h; cases h
        | some j =>
          rw [hj] at h; cases h
          obtain ⟨p, q, e1, e2, e3⟩ := plc_ok r a h0 hv (fun h => by cases h)
          obtain ⟨p', q', A, B, e1', e2', r1, _⟩ := r.peek hv (fun h => by cases h)
          rw [e1] at e1'; cases e1'
          rw [e2] at e2'; cases e2'
          obtain ⟨n, ps, G, e, mm, ko, rx, _⟩ := r1
          have hl := (fldIx_lt hj).1
          rw [ko.1] at hl
          refine ⟨p, ps[j], e1, ?_, ?_⟩
          · rw [atP_snoc, e2]
            simp only [Option.bind_some]
            rw [e, kids_loc mm ko]
            simp [hl]
          · simp only [objOf] at mm
            simp only [evE, e3, Res.bind_ok, e, mm, lookupF_zip, hj, Option.bind_some, List.getElem?_eq_getElem hl, lift]
      · cases h
    · cases h
  | .idx a b, i, js, w, h, hp, hg => by
    simp only [plc] at h
    split at h
    · rename_i i0 js0 k h0 hk
      split at h
      · rename_i v hv
        cases hj : stepIx v k with
        | none => rw [hj] at h; cases h
        | some j =>
          rw [hj] at h; cases h
          have hvg : v ≠ .gone := by rintro rfl; cases hj
          obtain ⟨p, q, e1, e2, e3⟩ := plc_ok r a h0 hv hvg
          obtain ⟨p', q', A, B, e1', e2', r1, _⟩ := r.peek hv hvg
          rw [e1] at e1'; cases e1'
          rw [e2] at e2'; cases e2'
          obtain ⟨pk, e4, rk⟩ := sEv_ok L r b hk
          have ixl : ∀ {n : Nat} {z : Int} {j : Nat}, ixOf n z = some j → j < n := by
            intro n z j hj
            simp only [ixOf] at hj
            split at hj
            · split at hj
              · cases hj; omega
              · cases hj
            · split at hj
              · cases hj; omega
              · cases hj
          simp only [stepIx] at hj
          split at hj
          · rename_i vs z
            obtain ⟨n, ps, G, e, mm, ko, rx, _⟩ := r1
            have hl := ixl hj
            rw [← rx.length] at hl
            refine ⟨p, ps[j], e1, ?_, ?_⟩
            · rw [atP_snoc, e2]
              simp only [Option.bind_some]
              rw [e, kids_loc mm ko]
              simp [hl]
            · simp only [objOf] at mm
              rw [show pk = _ from rk] at e4
              simp only [evE, e3, Res.bind_ok, e4, e, doIdx, mm, rx.length, hj, Option.bind_some, List.getElem?_eq_getElem hl, lift]
          · rename_i vs z
            obtain ⟨ps, e, rx⟩ := r1
            have hl := ixl hj
            rw [← rx.length] at hl
            refine ⟨p, ps[j], e1, ?_, ?_⟩
            · rw [atP_snoc, e2, e]
              simp [kidsP, hl]
            · rw [show pk = _ from rk] at e4
              simp only [evE, e3, Res.bind_ok, e4, e, doIdx, rx.length, hj, Option.bind_some, List.getElem?_eq_getElem hl, lift]
          · rename_i ks vs k
            split at hj
            · rename_i ik
              obtain ⟨n, ps, G, e, mm, ko, rx, _⟩ := r1
              have hl := (keyIx_lt hj).1
              rw [ko.1] at hl
              obtain ⟨ek, ik'⟩ := rk.key ik
              refine ⟨p, ps[j], e1, ?_, ?_⟩
              · rw [atP_snoc, e2]
                simp only [Option.bind_some]
                rw [e, kids_loc mm ko]
                simp [hl]
              · simp only [objOf] at mm
                simp only [evE, e3, Res.bind_ok, e4, e, doIdx, mm, ik', if_true]
                rw [ek, lookup_zip ik ko.2.2, hj]
                simp only [Option.bind_some, List.getElem?_eq_getElem hl, lift]
            · cases hj
          · cases hj
      · cases h
    · cases h
end

/-! ### what comes of an evaluation -/
def Out {α β : Type} (Q : Env → Store → FP → α → β → FP → Prop) (r : R α) (out : Res β) (Ep : Env) (M : Store) (Sh F : FP) : Prop := match r with
  | .ok a E' => ∃ (b : β) (M' : Store) (Sh' A B : FP), out = .ok b M' ∧ Q Ep M' Sh' a b A ∧ RE M' Sh' E' Ep B ∧ (∀ n, A n → ¬ B n) ∧ Stp M Sh F M' Sh' (fun n => A n ∨ B n)
  | .err C fs vs E' => ∃ (qs : List PV) (M' : Store) (Sh' B : FP), out = .err ⟨C, fs, qs⟩ M' ∧ fs.length = vs.length ∧ RIs M' Sh' vs qs ∧ RE M' Sh' E' Ep B ∧ Stp M Sh F M' Sh' B
  | .bad => True
theorem Stp.widen {M M' : Store} {Sh Sh' B F F' : FP} (s : Stp M Sh B M' Sh' F') (h : ∀ n, B n → F n) : Stp M Sh F M' Sh' F' :=
  ⟨s.len, fun n hn hf => s.old n hn fun b => hf (h n b), s.up, fun n hn hs => (s.dn n hn hs).elim .inl fun b => .inr (h n b), fun n f hn => h n (s.fp n f hn), s.ok⟩
theorem Out.widen {α β : Type} {Q : Env → Store → FP → α → β → FP → Prop} {r : R α} {out : Res β} {Ep : Env} {M : Store} {Sh B F : FP} (o : Out Q r out Ep M Sh B) (h : ∀ n, B n → F n) : Out Q r out Ep M Sh F := by
  cases r with
  | ok a E' => obtain ⟨b, M', Sh', A, B, e, q, re, di, s⟩ := o; exact ⟨b, M', Sh', A, B, e, q, re, di, s.widen h⟩
  | err C fs vs E' => obtain ⟨qs, M', Sh', B, e, l, q, re, s⟩ := o; exact ⟨qs, M', Sh', B, e, l, q, re, s.widen h⟩
  | bad => trivial
/-- one behind the other; A is held meanwhile -/
theorem Out.bindF {α β γ δ : Type} {Q : Env → Store → FP → α → β → FP → Prop} {Q' : Env → Store → FP → γ → δ → FP → Prop} {r : R α} {k : α → VE → R γ} {out : Res β} {h : β → Store → Res δ} {Ep : Env} {M : Store} {Sh A B F : FP}
    (o : Out Q r out Ep M Sh B) (ok : Ok M Sh F) (hA : ∀ n, A n → F n) (hB : ∀ n, B n → F n) (dAB : ∀ n, A n → ¬ B n)
    (t : ∀ (a : α) (E' : VE) (b : β) (M' : Store) (Sh' A' B' : FP), r = .ok a E' → out = .ok b M' → Q Ep M' Sh' a b A' → RE M' Sh' E' Ep B' → (∀ n, A' n → ¬ B' n) → (∀ n, A n → ¬ A' n ∧ ¬ B' n) → Ok M' Sh' (fun n => A n ∨ A' n ∨ B' n) → (∀ n, Sh n → Sh' n ∧ M'[n]? = M[n]?) → (∀ n, A n → M'[n]? = M[n]?) → M.length ≤ M'.length → Out Q' (k a E') (h b M') Ep M' Sh' (fun n => A n ∨ A' n ∨ B' n)) :
    Out Q' (r.bind k) (out.bind h) Ep M Sh F := by
  cases r with
  | bad => trivial
  | err C fs vs E' =>
    obtain ⟨qs, M', Sh', B', e, l, q, re, s⟩ := o
    rw [e]
    exact ⟨qs, M', Sh', B', rfl, l, q, re, s.widen hB⟩
  | ok a E' =>
    obtain ⟨b, M', Sh', A', B', e, q, re, di, s⟩ := o
    have okB := ok.sub hB
    have okA := ok.sub hA
    have gA := s.gok okA dAB
    have dA := s.dis okA dAB
    have okk : Ok M' Sh' (fun n => A n ∨ A' n ∨ B' n) := ⟨fun n h => h.elim (gA.lt n) (s.ok.lt n), fun n h => h.elim (gA.ns n) (s.ok.ns n), s.ok.sl⟩
    have t' := t a E' b M' Sh' A' B' rfl e q re di (fun n h => ⟨fun x => dA n h (.inl x), fun x => dA n h (.inr x)⟩) okk (s.kept okB) (fun n h => s.old n (okA.lt n h) (dAB n h)) s.len
    have s' : Stp M Sh F M' Sh' (fun n => A n ∨ A' n ∨ B' n) := ⟨s.len, fun n hn hf => s.old n hn fun b => hf (hB n b), s.up, fun n hn hs => (s.dn n hn hs).elim .inl fun b => .inr (hB n b), fun n f hn => f.elim (hA n) fun f => hB n (s.fp n f hn), okk⟩
    rw [e]
    show Out Q' (k a E') (h b M') Ep M Sh F
    cases hk : k a E' with
    | bad => trivial
    | err C fs vs E2 =>
      rw [hk] at t'
      obtain ⟨qs, M2, Sh2, B2, e2, l2, q2, re2, s2⟩ := t'
      exact ⟨qs, M2, Sh2, B2, e2, l2, q2, re2, s'.seq s2 (fun _ h => h) (G := fun _ => False) (fun _ h => h.elim) (fun _ h => .inr h)⟩
    | ok c E2 =>
      rw [hk] at t'
      obtain ⟨b2, M2, Sh2, A2, B2, e2, q2, re2, di2, s2⟩ := t'
      exact ⟨b2, M2, Sh2, A2, B2, e2, q2, re2, di2, s'.seq s2 (fun _ h => h) (G := fun _ => False) (fun _ h => h.elim) (fun _ h => .inr h)⟩
/-- nothing held -/
theorem Out.bind {α β γ δ : Type} {Q : Env → Store → FP → α → β → FP → Prop} {Q' : Env → Store → FP → γ → δ → FP → Prop} {r : R α} {k : α → VE → R γ} {out : Res β} {h : β → Store → Res δ} {Ep : Env} {M : Store} {Sh F : FP}
    (o : Out Q r out Ep M Sh F) (ok : Ok M Sh F)
    (t : ∀ (a : α) (E' : VE) (b : β) (M' : Store) (Sh' A' B' : FP), r = .ok a E' → out = .ok b M' → Q Ep M' Sh' a b A' → RE M' Sh' E' Ep B' → (∀ n, A' n → ¬ B' n) → Ok M' Sh' (fun n => A' n ∨ B' n) → (∀ n, Sh n → Sh' n ∧ M'[n]? = M[n]?) → M.length ≤ M'.length → Out Q' (k a E') (h b M') Ep M' Sh' (fun n => A' n ∨ B' n)) :
    Out Q' (r.bind k) (out.bind h) Ep M Sh F :=
  o.bindF (A := fun _ => False) ok (fun _ h => h.elim) (fun _ h => h) (fun _ h => h.elim) fun a E' b M' Sh' A' B' e1 e2 q re di _ okk kp _ le =>
    (t a E' b M' Sh' A' B' e1 e2 q re di (okk.sub fun _ h => .inr h) kp le).widen fun _ h => .inr h
def QV : Env → Store → FP → V → PV → FP → Prop := fun _ M Sh v p A => RV M Sh v p A
def QVs : Env → Store → FP → List V → List PV → FP → Prop := fun _ M Sh v p A => RVs M Sh v p A
def QE {α : Type} : Env → Store → FP → α → α → FP → Prop := fun _ _ _ a b A => a = b ∧ ∀ n, ¬ A n
/-- looked at -/
def QW (st : Bool) : Env → Store → FP → V → PV → FP → Prop := fun _ M Sh v p A => ∀ (M' : Store) (Sh' : FP), (∀ n, Sh n → Sh' n ∧ M'[n]? = M[n]?) → (∀ n, A n → M'[n]? = M[n]?) → (st = true → ∀ n, n < M.length → M'[n]? = M[n]?) → ∀ x, v.flat = some x → RF M' Sh' x p
theorem QV.w {st : Bool} {Ep : Env} {M : Store} {Sh A : FP} {v : V} {p : PV} (h : RV M Sh v p A) : QW st Ep M Sh v p A :=
  fun M' Sh' k1 k2 _ x hx => (h.mono k1 k2).rf hx
theorem QW.rf {st : Bool} {Ep : Env} {M : Store} {Sh A : FP} {v : V} {p : PV} {x : I} (h : QW st Ep M Sh v p A) (hx : v.flat = some x) : RF M Sh x p := h M Sh (fun _ s => ⟨s, rfl⟩) (fun _ _ => rfl) (fun _ _ _ => rfl) x hx
theorem Out.mono {α β : Type} {Q Q' : Env → Store → FP → α → β → FP → Prop} {r : R α} {out : Res β} {Ep : Env} {M : Store} {Sh F : FP} (o : Out Q r out Ep M Sh F) (h : ∀ M' Sh' a b A, Q Ep M' Sh' a b A → Q' Ep M' Sh' a b A) : Out Q' r out Ep M Sh F := by
  cases r with
  | ok a E' => obtain ⟨b, M', Sh', A, B, e, q, re, di, s⟩ := o; exact ⟨b, M', Sh', A, B, e, h _ _ _ _ _ q, re, di, s⟩
  | err C fs vs E' => exact o
  | bad => trivial
section
variable {M : Store} {Sh F B : FP} {E : VE} {Ep : Env}
/-- the end: something new, or nothing -/
theorem Out.new {v : V} {p : PV} {M' : Store} (re : RE M Sh E Ep B) (ok : Ok M Sh F) (hB : ∀ n, B n → F n) (n : New M Sh v p M') : Out QV (.ok v E) (.ok p M') Ep M Sh F := by
  rcases n with ⟨rfl, r⟩ | ⟨ob, rfl, r⟩
  · exact ⟨p, M', Sh, _, B, rfl, r, re, fun _ h => h.elim, (Stp.refl ok).drop fun n h => h.elim False.elim (hB n)⟩
  · refine ⟨p, _, Sh, _, B, rfl, r, re.mono (app_kept ok.sl) (fun n h => List.getElem?_append_left (ok.lt n (hB n h))), ?_, Stp.new ok ob fun n h => h.elim .inr fun h => .inl (hB n h)⟩
    intro n e h
    have := ok.lt n (hB n h); omega
theorem Out.im {x : I} {p : PV} (re : RE M Sh E Ep B) (ok : Ok M Sh F) (hB : ∀ n, B n → F n) (r : RI M Sh x p) : Out QV (.ok (.im x) E) (.ok p M) Ep M Sh F := Out.new re ok hB (.im r)
theorem Out.val {α : Type} {a : α} (re : RE M Sh E Ep B) (ok : Ok M Sh F) (hB : ∀ n, B n → F n) : Out QE (.ok a E) (.ok a M) Ep M Sh F :=
  ⟨a, M, Sh, fun _ => False, B, rfl, ⟨rfl, fun _ h => h⟩, re, fun _ h => h.elim, (Stp.refl ok).drop fun n h => h.elim False.elim (hB n)⟩
/-- a place is read -/
theorem rd_ok {i : Nat} {js : List Nat} {p q : PV} (re : RE M Sh E Ep F) (ok : Ok M Sh F) (e1 : Ep[i]? = some (some p)) (e2 : atP M p js = some q) : Out QV (rd E i js) (.ok q M) Ep M Sh F := by
  simp only [rd]
  split
  · rename_i x hx
    obtain ⟨p', q', A, B, e1', e2', r1, _⟩ := re.peek hx (fun h => by cases h)
    rw [e1] at e1'; cases e1'
    rw [e2] at e2'; cases e2'
    exact Out.im re ok (fun _ h => h) r1.1
  · rename_i v hn hx
    split
    · rename_i y hy
      have hg : v ≠ .gone := by rintro rfl; cases hy
      obtain ⟨p', q', A, B, e1', e2', r1, d1, f1, k1⟩ := re.peek hx hg
      rw [e1] at e1'; cases e1'
      rw [e2] at e2'; cases e2'
      have rf := r1.freeze hy
      have kp : ∀ n, Sh n → (Sh n ∨ A n) ∧ M[n]? = M[n]? := fun n h => ⟨.inl h, rfl⟩
      refine ⟨q, M, fun n => Sh n ∨ A n, fun _ => False, _, rfl, ⟨rf, fun _ h => h⟩, k1 M (fun n => Sh n ∨ A n) (.im y) (fun _ => False) kp (fun _ _ => rfl) ⟨rf, fun _ h => h⟩ (fun _ h => h.elim), fun _ h => h.elim, Stp.frz ok (fun n h => (f1 n).2 (.inl h)) ?_⟩
      rintro n (h | h | h)
      · exact h.elim
      · exact h.elim
      · exact ⟨(f1 n).2 (.inr h), fun a => d1 n a h⟩
    · trivial
  · trivial
theorem take_ok {i : Nat} {js : List Nat} {p q : PV} (re : RE M Sh E Ep F) (ok : Ok M Sh F) (e1 : Ep[i]? = some (some p)) (e2 : atP M p js = some q) : Out QV (take E i js) (.ok q M) Ep M Sh F := by
  simp only [take]
  split
  · rename_i x hx
    obtain ⟨p', q', A, B, e1', e2', r1, _⟩ := re.peek hx (fun h => by cases h)
    rw [e1] at e1'; cases e1'
    rw [e2] at e2'; cases e2'
    exact Out.im re ok (fun _ h => h) r1.1
  · trivial
  · rename_i v hn hg hx
    obtain ⟨p', q', A, B, e1', e2', r1, d1, f1, k1⟩ := re.peek hx (fun h => hg h)
    rw [e1] at e1'; cases e1'
    rw [e2] at e2'; cases e2'
    refine ⟨q, M, Sh, A, _, rfl, r1, k1 M Sh .gone (fun _ => False) (fun n h => ⟨h, rfl⟩) (fun _ _ => rfl) (fun _ h => h) (fun _ h => h.elim), ?_, (Stp.refl ok).drop fun n h => h.elim (fun h => (f1 n).2 (.inl h)) fun h => (f1 n).2 (.inr (h.elim False.elim id))⟩
    rintro n a (h | h)
    · exact h
    · exact d1 n a h
  · trivial
variable {c : VC} {d : Ctx} (L : Lnk c d)
include L in
theorem view_ok {e : Ex} {st : Bool} {k : R V} (re : RE M Sh E Ep F) (ok : Ok M Sh F) (ih : Out QV k (evE d e Ep M) Ep M Sh F) : Out (QW st) (view (plc c E e) st E k) (evE d e Ep M) Ep M Sh F := by
  simp only [view]
  split
  · rename_i i js hp
    split
    · rename_i x hx
      obtain ⟨p, q, e1, e2, e3⟩ := plc_ok L re e hp hx (fun h => by cases h)
      obtain ⟨p', q', A, B, e1', e2', r1, _⟩ := re.peek hx (fun h => by cases h)
      rw [e1] at e1'; cases e1'
      rw [e2] at e2'; cases e2'
      rw [e3]
      exact (Out.im re ok (fun _ h => h) r1.1).mono fun _ _ _ _ _ h => QV.w h
    · trivial
    · rename_i v hn hg hx
      split
      · rename_i hst
        obtain ⟨p, q, e1, e2, e3⟩ := plc_ok L re e hp hx (fun h => hg h)
        obtain ⟨p', q', A, B, e1', e2', r1, d1, f1, _⟩ := re.peek hx (fun h => hg h)
        rw [e1] at e1'; cases e1'
        rw [e2] at e2'; cases e2'
        rw [e3]
        refine ⟨q, M, Sh, fun _ => False, F, rfl, ?_, re, fun _ h => h.elim, (Stp.refl ok).drop fun n h => h.elim False.elim id⟩
        intro M' Sh' k1 _ k3 x hx
        exact (r1.mono k1 fun n a => k3 hst n (ok.lt n ((f1 n).2 (.inl a)))).rf hx
      · trivial
    · trivial
  · exact ih.mono fun _ _ _ _ _ h => QV.w h
end
end Wn
end
section
/-! Vs6: what changes nothing; arguments and calls. -/
namespace Wn
open PySem

/-- only something new -/
def Adds (M M' : Store) : Prop := ∃ os, M' = M ++ os
theorem Adds.refl (M : Store) : Adds M M := ⟨[], by simp⟩
theorem Adds.trans {M M1 M2 : Store} (a : Adds M M1) (b : Adds M1 M2) : Adds M M2 := by
  obtain ⟨x, rfl⟩ := a; obtain ⟨y, rfl⟩ := b; exact ⟨x ++ y, by simp⟩
theorem Adds.old {M M1 : Store} (a : Adds M M1) : ∀ n, n < M.length → M1[n]? = M[n]? := by
  obtain ⟨x, rfl⟩ := a; exact fun n h => List.getElem?_append_left h
theorem bind_inv {α β : Type} {r : Res α} {f : α → Store → Res β} {b : β} {M : Store} (h : r.bind f = .ok b M) : ∃ a M1, r = .ok a M1 ∧ f a M1 = .ok b M := by
  cases r with
  | ok a M1 => exact ⟨a, M1, rfl, h⟩
  | err x M1 => cases h
  | bad => cases h
theorem doBin_adds {M M' : Store} {o : BOp} {p q w : PV} (h : doBin M o p q = .ok w M') : Adds M M' := by
  simp only [doBin] at h
  repeat' split at h
  all_goals first
    | (cases h; done)
    | (cases h; exact Adds.refl _)
    | (cases h; exact ⟨_, rfl⟩)
theorem len_adds {M M' : Store} {ps : List PV} {w : PV} (h : doBi M .len ps = .ok w M') : Adds M M' := by
  match ps, h with
  | [], h => cases h
  | [x], h =>
    cases x with
    | loc n =>
      simp only [doBi] at h
      repeat' split at h
      all_goals first
        | (cases h; done)
        | (cases h; exact Adds.refl _)
    | str x =>
      simp only [doBi] at h
      split at h
      · cases h; exact Adds.refl _
      · cases h
    | tup xs => cases h; exact Adds.refl _
    | fl xs => cases h; exact Adds.refl _
    | _ => cases h
  | x :: y :: r, h => cases x <;> cases h
mutual
theorem still_adds {d : Ctx} {Ep : Env} : ∀ (e : Ex) {M M' : Store} {p : PV}, still e = true → evE d e Ep M = .ok p M' → Adds M M'
  | .var i, M, M', p, _, h => by
    simp only [evE] at h
    split at h
    · cases h; exact Adds.refl _
    · cases h
  | .int _, _, _, _, _, h => by cases h; exact Adds.refl _
  | .str _, _, _, _, _, h => by cases h; exact Adds.refl _
  | .bl _, _, _, _, _, h => by cases h; exact Adds.refl _
  | .non, _, _, _, _, h => by cases h; exact Adds.refl _
  | .glo x, M, M', p, _, h => by
    simp only [evE] at h
    split at h
    · cases h; exact Adds.refl _
    · cases h
  | .bin o a b, M, M', p, s, h => by
    simp only [still, Bool.and_eq_true] at s
    simp only [evE] at h
    obtain ⟨x, M1, h1, h⟩ := bind_inv h
    obtain ⟨y, M2, h2, h⟩ := bind_inv h
    exact ((still_adds a s.1 h1).trans (still_adds b s.2 h2)).trans (doBin_adds h)
  | .neg a, M, M', p, s, h => by
    simp only [still] at s
    simp only [evE] at h
    obtain ⟨x, M1, h1, h⟩ := bind_inv h
    split at h
    · cases h; exact still_adds a s h1
    · cases h
  | .cmp o a b, M, M', p, s, h => by
    simp only [still, Bool.and_eq_true] at s
    simp only [evE] at h
    obtain ⟨x, M1, h1, h⟩ := bind_inv h
    obtain ⟨y, M2, h2, h⟩ := bind_inv h
    simp only [liftB] at h
    split at h
    · cases h; exact (still_adds a s.1 h1).trans (still_adds b s.2 h2)
    · cases h
  | .tup es, M, M', p, s, h => by
    simp only [still] at s
    simp only [evE] at h
    obtain ⟨x, M1, h1, h⟩ := bind_inv h
    split at h
    · cases h; exact stills_adds es s h1
    · cases h
  | .lst es, M, M', p, s, h => by
    simp only [still] at s
    simp only [evE] at h
    obtain ⟨x, M1, h1, h⟩ := bind_inv h
    split at h
    · cases h; exact (stills_adds es s h1).trans ⟨_, rfl⟩
    · cases h
  | .idx a b, M, M', p, s, h => by
    simp only [still, Bool.and_eq_true] at s
    simp only [evE] at h
    obtain ⟨x, M1, h1, h⟩ := bind_inv h
    obtain ⟨y, M2, h2, h⟩ := bind_inv h
    simp only [lift] at h
    split at h
    · cases h; exact (still_adds a s.1 h1).trans (still_adds b s.2 h2)
    · cases h
  | .fld a f, M, M', p, s, h => by
    simp only [still] at s
    simp only [evE] at h
    obtain ⟨x, M1, h1, h⟩ := bind_inv h
    have := still_adds a s h1
    repeat' split at h
    all_goals first
      | (cases h; done)
      | (simp only [lift] at h; split at h <;> first | (cases h; exact this) | (cases h; done))
  | .bi f es, M, M', p, s, h => by
    cases f with
    | len =>
      simp only [still] at s
      simp only [evE] at h
      obtain ⟨x, M1, h1, h⟩ := bind_inv h
      exact (stills_adds es s h1).trans (len_adds h)
    | _ => cases s
theorem stills_adds {d : Ctx} {Ep : Env} : ∀ (es : Exs) {M M' : Store} {ps : List PV}, stills es = true → evEs d es Ep M = .ok ps M' → Adds M M'
  | .nil, _, _, _, _, h => by cases h; exact Adds.refl _
  | .cons e es, M, M', p, s, h => by
    simp only [stills, Bool.and_eq_true] at s
    simp only [evEs] at h
    obtain ⟨x, M1, h1, h⟩ := bind_inv h
    obtain ⟨y, M2, h2, h⟩ := bind_inv h
    cases h
    exact (still_adds e s.1 h1).trans (stills_adds es s.2 h2)
end

theorem stillO_adds {d : Ctx} {Ep : Env} {o : Ox} {M M' : Store} {l : Option Int} (s : stillO o = true) (h : evO d o Ep M = .ok l M') : Adds M M' := by
  cases o with
  | none => cases h; exact Adds.refl _
  | some e =>
    simp only [evO] at h
    obtain ⟨x, M1, h1, h⟩ := bind_inv h
    split at h
    · cases h; exact still_adds e s h1
    · cases h
/-! ### arguments -/
def RA (Ep : Env) (M : Store) (Sh : FP) : List Arg → List PV → FP → Prop
  | [], ps, A => ps = [] ∧ ∀ n, ¬ A n
  | .v v :: as, ps, A => ∃ (p : PV) (qs : List PV) (B C : FP), ps = p :: qs ∧ RV M Sh v p B ∧ RA Ep M Sh as qs C ∧ (∀ n, B n → ¬ C n) ∧ ∀ n, A n ↔ (B n ∨ C n)
  | .ln i :: as, ps, A => ∃ p qs, ps = p :: qs ∧ Ep[i]? = some (some p) ∧ RA Ep M Sh as qs A
theorem RA.mono {Ep : Env} {M M' : Store} {Sh Sh' : FP} (h : ∀ n, Sh n → Sh' n ∧ M'[n]? = M[n]?) : ∀ {as : List Arg} {ps : List PV} {A : FP}, (∀ n, A n → M'[n]? = M[n]?) → RA Ep M Sh as ps A → RA Ep M' Sh' as ps A
  | [], _, _, _, r => r
  | .v v :: as, _, _, g, ⟨p, qs, B, C, e, r, rs, d, f⟩ => ⟨p, qs, B, C, e, r.mono h (fun n x => g n ((f n).2 (.inl x))), rs.mono h (fun n x => g n ((f n).2 (.inr x))), d, f⟩
  | .ln i :: as, _, _, g, ⟨p, qs, e, r, rs⟩ => ⟨p, qs, e, r, rs.mono h g⟩
def AP (Ep : Env) : List Arg → List PV → Prop
  | [], ps => ps = []
  | .v _ :: as, ps => ∃ p qs, ps = p :: qs ∧ AP Ep as qs
  | .ln i :: as, ps => ∃ p qs, ps = p :: qs ∧ Ep[i]? = some (some p) ∧ AP Ep as qs
theorem RA.ap {Ep : Env} {M : Store} {Sh : FP} : ∀ {as : List Arg} {ps : List PV} {A : FP}, RA Ep M Sh as ps A → AP Ep as ps
  | [], _, _, r => r.1
  | .v v :: as, _, _, ⟨p, qs, B, C, e, r, rs, d, f⟩ => ⟨p, qs, e, rs.ap⟩
  | .ln i :: as, _, _, ⟨p, qs, e, r, rs⟩ => ⟨p, qs, e, r, rs.ap⟩
def QA : Env → Store → FP → List Arg → List PV → FP → Prop := fun Ep M Sh as ps A => RA Ep M Sh as ps A
section
variable {Ep : Env} {M : Store} {Sh : FP}
theorem lend_ok : ∀ {as : List Arg} {ps : List PV} {E : VE} {A B : FP} {vs : List V} {E1 : VE}, RA Ep M Sh as ps A → RE M Sh E Ep B → (∀ n, A n → ¬ B n) → lend as E = some (vs, E1) →
    ∃ A' B' : FP, RVs M Sh vs ps A' ∧ RE M Sh E1 Ep B' ∧ (∀ n, A' n → ¬ B' n) ∧ ∀ n, (A' n ∨ B' n) → A n ∨ B n
  | [], ps, E, A, B, vs, E1, r, re, d, h => by
    cases h
    exact ⟨A, B, r, re, d, fun _ h => h⟩
  | .v v :: as, _, E, A, B, vs, E1, ⟨p, qs, B1, C1, e, r, rs, d1, f⟩, re, d, h => by
    simp only [lend] at h
    cases hl : lend as E with
    | none => rw [hl] at h; cases h
    | some w =>
      obtain ⟨us, E2⟩ := w
      rw [hl] at h; cases h
      obtain ⟨A', B', r1, re1, d2, s⟩ := lend_ok rs re (fun n x => d n ((f n).2 (.inr x))) hl
      refine ⟨fun n => B1 n ∨ A' n, B', ⟨p, qs, B1, A', e, r, r1, ?_, fun _ => Iff.rfl⟩, re1, ?_, ?_⟩
      · intro n x y
        exact (s n (.inl y)).elim (d1 n x) (d n ((f n).2 (.inl x)))
      · rintro n (x | x) y
        · exact (s n (.inr y)).elim (d1 n x) (d n ((f n).2 (.inl x)))
        · exact d2 n x y
      · rintro n ((x | x) | x)
        · exact .inl ((f n).2 (.inl x))
        · exact (s n (.inl x)).elim (fun y => .inl ((f n).2 (.inr y))) .inr
        · exact (s n (.inr x)).elim (fun y => .inl ((f n).2 (.inr y))) .inr
  | .ln i :: as, _, E, A, B, vs, E1, ⟨p, qs, e, ei, rs⟩, re, d, h => by
    simp only [lend] at h
    split at h
    · rename_i x hx
      cases hl : lend as E with
      | none => rw [hl] at h; cases h
      | some w =>
        obtain ⟨us, E2⟩ := w
        rw [hl] at h; cases h
        obtain ⟨A', B', r1, re1, d2, s⟩ := lend_ok rs re d hl
        obtain ⟨o, A0, B0, e0, r0, d0, f0, k0⟩ := re.at hx
        rw [ei] at e0; cases e0
        rcases r0 with ⟨z, _⟩ | ⟨p', z, r0⟩
        · cases z
        · cases z
          exact ⟨A', B', ⟨p, qs, fun _ => False, A', e, ⟨r0.1, fun _ h => h⟩, r1, fun _ h => h.elim, fun n => ⟨.inr, fun h => h.elim False.elim id⟩⟩, re1, d2, s⟩
    · cases h
    · rename_i v hn hg hx
      cases hl : lend as (E.set i .gone) with
      | none => rw [hl] at h; cases h
      | some w =>
        obtain ⟨us, E2⟩ := w
        rw [hl] at h; cases h
        obtain ⟨o, A0, B0, e0, r0, d0, f0, k0⟩ := re.at hx
        rw [ei] at e0; cases e0
        have re' := k0 M Sh .gone (some p) (fun _ => False) (fun n h => ⟨h, rfl⟩) (fun _ _ => rfl) (.inl ⟨rfl, fun _ h => h⟩) (fun _ h => h.elim)
        rw [set_same ei] at re'
        obtain ⟨A', B', r1, re1, d2, s⟩ := lend_ok rs re' (fun n x y => d n x ((f0 n).2 (.inr (y.elim False.elim id)))) hl
        rcases r0 with ⟨z, _⟩ | ⟨p', z, r0⟩
        · exact absurd z (fun h => hg h)
        · cases z
          have q : ∀ n, A0 n → (A' n ∨ B' n) → False := fun n x y => (s n y).elim (fun y => d n y ((f0 n).2 (.inl x))) fun y => y.elim id (d0 n x)
          refine ⟨fun n => A0 n ∨ A' n, B', ⟨p, qs, A0, A', e, r0, r1, fun n x y => q n x (.inl y), fun _ => Iff.rfl⟩, re1, ?_, ?_⟩
          · rintro n (x | x) y
            · exact q n x (.inr y)
            · exact d2 n x y
          · rintro n ((x | x) | x)
            · exact .inr ((f0 n).2 (.inl x))
            · exact (s n (.inl x)).elim .inl fun y => .inr ((f0 n).2 (.inr (y.elim False.elim id)))
            · exact (s n (.inr x)).elim .inl fun y => .inr ((f0 n).2 (.inr (y.elim False.elim id)))
    · cases h
theorem back_ok : ∀ {as : List Arg} {ps : List PV} {outs : List V} {E : VE} {O B : FP}, AP Ep as ps → RVs M Sh outs ps O → RE M Sh E Ep B → (∀ n, O n → ¬ B n) → ∃ B' : FP, RE M Sh (back as outs E) Ep B' ∧ ∀ n, B' n → O n ∨ B n
  | [], _, outs, E, O, B, _, _, re, _ => ⟨B, by cases outs <;> exact re, fun _ h => .inr h⟩
  | .v v :: as, _, [], E, O, B, _, _, re, _ => ⟨B, re, fun _ h => .inr h⟩
  | .ln i :: as, _, [], E, O, B, _, _, re, _ => ⟨B, re, fun _ h => .inr h⟩
  | .v v :: as, _, o :: os, E, O, B, ⟨p, qs, e, ap⟩, ⟨p', qs', O1, O2, e', r, rs, d, f⟩, re, dd => by
    rw [e] at e'; cases e'
    obtain ⟨B', re', s⟩ := back_ok ap rs re (fun n x => dd n ((f n).2 (.inr x)))
    exact ⟨B', re', fun n x => (s n x).elim (fun y => .inl ((f n).2 (.inr y))) .inr⟩
  | .ln i :: as, _, o :: os, E, O, B, ⟨p, qs, e, ei, ap⟩, ⟨p', qs', O1, O2, e', r, rs, d, f⟩, re, dd => by
    rw [e] at e'; cases e'
    have hl : i < E.length := by rw [← re.length]; exact (List.getElem?_eq_some_iff.1 ei).1
    obtain ⟨o0, A0, B0, e0, r0, d0, f0, k0⟩ := re.at (List.getElem?_eq_getElem hl)
    have re' := k0 M Sh o (some p) O1 (fun n h => ⟨h, rfl⟩) (fun _ _ => rfl) (.inr ⟨p, rfl, r⟩) (fun n x y => dd n ((f n).2 (.inl x)) ((f0 n).2 (.inr y)))
    rw [set_same ei] at re'
    obtain ⟨B', re2, s⟩ := back_ok ap rs re' (fun n x y => y.elim (fun y => d n y x) fun y => dd n ((f n).2 (.inr x)) ((f0 n).2 (.inr y)))
    refine ⟨B', re2, fun n x => (s n x).elim (fun y => .inl ((f n).2 (.inr y))) fun y => y.elim (fun y => .inl ((f n).2 (.inl y))) fun y => .inr ((f0 n).2 (.inr y))⟩
theorem doCall_ok {as : List Arg} {ps : List PV} {E : VE} {A B F : FP} {f : List V → RO} {g : List PV → Store → Res PV} (h : ∀ args, ROk (f args) args g) (ra : RA Ep M Sh as ps A) (re : RE M Sh E Ep B) (d : ∀ n, A n → ¬ B n) (ok : Ok M Sh F) (hF : ∀ n, (A n ∨ B n) → F n) : Out QV (doCall as E f) (g ps M) Ep M Sh F := by
  simp only [doCall]
  split
  · rename_i vs E1 hl
    obtain ⟨A', B', rv, re1, d1, s⟩ := lend_ok ra re d hl
    have okA : Ok M Sh A' := ok.sub fun n x => hF n (s n (.inl x))
    have okB : Ok M Sh B' := ok.sub fun n x => hF n (s n (.inr x))
    have q := h vs M Sh ps A' rv okA
    cases hr : f vs with
    | bad => trivial
    | err C fs xs outs =>
      rw [hr] at q
      obtain ⟨qs, M', Sh', O, e, l, ri, ro, st⟩ := q
      have re2 := re1.mono (st.kept okA) (fun n x => st.old n (okB.lt n x) fun y => d1 n y x)
      have dO := st.dis okB (fun n x y => d1 n y x)
      obtain ⟨B2, re3, s3⟩ := back_ok ra.ap ro re2 (fun n x y => dO n y x)
      refine ⟨qs, M', Sh', B2, e, l, ri, re3, ?_⟩
      exact (Stp.refl ok).seq st (fun n x => hF n (s n (.inl x))) (G := B') (fun n x => ⟨hF n (s n (.inr x)), fun y => d1 n y x⟩) (fun n x => (s3 n x).elim .inr .inl)
    | ok v outs =>
      rw [hr] at q
      obtain ⟨p, M', Sh', R, O, e, rr, ro, dRO, st⟩ := q
      have re2 := re1.mono (st.kept okA) (fun n x => st.old n (okB.lt n x) fun y => d1 n y x)
      have dO := st.dis okB (fun n x y => d1 n y x)
      obtain ⟨B2, re3, s3⟩ := back_ok ra.ap ro re2 (fun n x y => dO n y (.inr x))
      refine ⟨p, M', Sh', R, B2, e, rr, re3, fun n x y => (s3 n y).elim (dRO n x) fun y => dO n y (.inl x), ?_⟩
      exact (Stp.refl ok).seq st (fun n x => hF n (s n (.inl x))) (G := B') (fun n x => ⟨hF n (s n (.inr x)), fun y => d1 n y x⟩) (fun n x => x.elim (fun x => .inr (.inl x)) fun x => (s3 n x).elim (fun x => .inr (.inr x)) .inl)
  · trivial
end
end Wn
end
section
/-! Vs7: targets, comprehensions' turns. -/
namespace Wn
open PySem
section
variable {M : Store} {Sh : FP}
theorem RE.set {E : VE} {Ep : Env} {B A : FP} {i : Nat} {v : V} {p : PV} (re : RE M Sh E Ep B) (rv : RV M Sh v p A) (d : ∀ n, A n → ¬ B n) : ∃ B' : FP, RE M Sh (E.set i v) (Ep.set i (some p)) B' ∧ ∀ n, B' n → A n ∨ B n := by
  by_cases hl : i < E.length
  · obtain ⟨o, A0, B0, e0, r0, d0, f0, k0⟩ := re.at (List.getElem?_eq_getElem hl)
    exact ⟨_, k0 M Sh v (some p) A (fun n h => ⟨h, rfl⟩) (fun _ _ => rfl) (.inr ⟨p, rfl, rv⟩) (fun n x y => d n x ((f0 n).2 (.inr y))), fun n h => h.elim .inl fun h => .inr ((f0 n).2 (.inr h))⟩
  · have hl' : ¬ i < Ep.length := by rw [re.length]; exact hl
    rw [List.set_eq_of_length_le (by omega), List.set_eq_of_length_le (by omega)]
    exact ⟨B, re, fun n h => .inr h⟩
/-- a name that holds nothing -/
theorem RE.setGone {E : VE} {Ep : Env} {B : FP} {i : Nat} (o : Option PV) (re : RE M Sh E Ep B) : ∃ B' : FP, RE M Sh (E.set i .gone) (Ep.set i o) B' ∧ ∀ n, B' n → B n := by
  by_cases hl : i < E.length
  · obtain ⟨o', A0, B0, e0, r0, d0, f0, k0⟩ := re.at (List.getElem?_eq_getElem hl)
    exact ⟨_, k0 M Sh .gone o (fun _ => False) (fun n h => ⟨h, rfl⟩) (fun _ _ => rfl) (.inl ⟨rfl, fun _ h => h⟩) (fun n x y => x.elim), fun n h => h.elim False.elim fun h => (f0 n).2 (.inr h)⟩
  · have hl' : ¬ i < Ep.length := by rw [re.length]; exact hl
    rw [List.set_eq_of_length_le (by omega), List.set_eq_of_length_le (by omega)]
    exact ⟨B, re, fun n h => h⟩
theorem RE.setIm {E : VE} {Ep : Env} {B : FP} {i : Nat} {x : I} {p : PV} (re : RE M Sh E Ep B) (r : RI M Sh x p) : ∃ B' : FP, RE M Sh (E.set i (.im x)) (Ep.set i (some p)) B' ∧ ∀ n, B' n → B n := by
  obtain ⟨B', r1, s⟩ := re.set (i := i) (A := fun _ => False) (v := .im x) ⟨r, fun _ h => h⟩ (fun _ h => h.elim)
  exact ⟨B', r1, fun n h => (s n h).elim False.elim id⟩
/-- pins -/
def Pin (pin : List Bool) (Ep Ep' : Env) : Prop := Ep'.length = Ep.length ∧ ∀ i, pin.getD i false = true → Ep'[i]? = Ep[i]?
theorem Pin.refl (pin : List Bool) (Ep : Env) : Pin pin Ep Ep := ⟨rfl, fun _ _ => rfl⟩
theorem Pin.trans {pin : List Bool} {Ep Ep1 Ep2 : Env} (a : Pin pin Ep Ep1) (b : Pin pin Ep1 Ep2) : Pin pin Ep Ep2 := ⟨b.1.trans a.1, fun i h => (b.2 i h).trans (a.2 i h)⟩
theorem Pin.set {pin : List Bool} {Ep : Env} {i : Nat} {o : Option PV} (h : ¬ pin.getD i false = true) : Pin pin Ep (Ep.set i o) :=
  ⟨by simp, fun j hj => by rw [List.getElem?_set_ne]; rintro rfl; exact h hj⟩
theorem setAll_ok {pin : List Bool} : ∀ {is : List Nat} {vs : List V} {ps : List PV} {E E1 : VE} {Ep : Env} {A B : FP}, RVs M Sh vs ps A → RE M Sh E Ep B → (∀ n, A n → ¬ B n) → vSetTg.setAll pin is vs E = some E1 → ∃ (Ep1 : Env) (B' : FP), setTg.setAll is ps Ep = some Ep1 ∧ RE M Sh E1 Ep1 B' ∧ (∀ n, B' n → A n ∨ B n) ∧ Pin pin Ep Ep1 ∧ ∀ j, j ∉ is → Ep1[j]? = Ep[j]?
  | [], [], _, E, E1, Ep, A, B, r, re, d, h => by
    cases h
    rw [r.1]
    exact ⟨Ep, B, rfl, re, fun _ h => .inr h, .refl _ _, fun _ _ => rfl⟩
  | [], _ :: _, _, _, _, _, _, _, _, _, _, h => by cases h
  | _ :: _, [], _, _, _, _, _, _, _, _, _, h => by cases h
  | i :: is, v :: vs, _, E, E1, Ep, A, B, ⟨p, qs, A1, A2, e, r, rs, d1, f⟩, re, d, h => by
    simp only [vSetTg.setAll] at h
    split at h
    · cases h
    · rename_i hp
      obtain ⟨B1, re1, s1⟩ := re.set (i := i) r (fun n x y => d n ((f n).2 (.inl x)) y)
      obtain ⟨Ep1, B2, e2, re2, s2, pn, ot⟩ := setAll_ok rs re1 (fun n x y => (s1 n y).elim (fun y => d1 n y x) (d n ((f n).2 (.inr x)))) h
      refine ⟨Ep1, B2, by rw [e]; exact e2, re2, fun n x => (s2 n x).elim (fun x => .inl ((f n).2 (.inr x))) fun x => (s1 n x).elim (fun x => .inl ((f n).2 (.inl x))) .inr, (Pin.set hp).trans pn, fun j hj => ?_⟩
      rw [ot j (fun z => hj (List.mem_cons_of_mem _ z)), List.getElem?_set_ne (fun z => hj (by rw [← z]; exact List.mem_cons_self ..))]
theorem setTg_ok {pin : List Bool} {g : Tg} {v : V} {p : PV} {E E1 : VE} {Ep : Env} {A B : FP} (r : RV M Sh v p A) (re : RE M Sh E Ep B) (d : ∀ n, A n → ¬ B n) (h : vSetTg pin g v E = some E1) : ∃ (Ep1 : Env) (B' : FP), setTg g p Ep = some Ep1 ∧ RE M Sh E1 Ep1 B' ∧ (∀ n, B' n → A n ∨ B n) ∧ Pin pin Ep Ep1 ∧ ∀ j, j ∉ tgSlots g → Ep1[j]? = Ep[j]? := by
  cases g with
  | nm i =>
    simp only [vSetTg] at h
    split at h
    · cases h
    · rename_i hp
      cases h
      obtain ⟨B1, re1, s1⟩ := re.set (i := i) r d
      exact ⟨_, B1, rfl, re1, s1, Pin.set hp, fun j hj => by rw [List.getElem?_set_ne]; rintro rfl; exact hj (by simp [tgSlots])⟩
  | tup is =>
    cases v with
    | im x =>
      cases x with
      | tup xs =>
        obtain ⟨⟨ps, e, rs⟩, _⟩ := r
        obtain ⟨Ep1, B', e1, re1, s1, pn, ot⟩ := setAll_ok (A := fun _ => False) (RVs.of_ims rs fun _ h => h) re (fun _ h => h.elim) h
        exact ⟨Ep1, B', by rw [e]; exact e1, re1, fun n x => (s1 n x).elim False.elim .inr, pn, ot⟩
      | _ => cases h
    | tup vs =>
      obtain ⟨ps, e, rs⟩ := r
      obtain ⟨Ep1, B', e1, re1, s1, pn, ot⟩ := setAll_ok rs re d h
      exact ⟨Ep1, B', by rw [e]; exact e1, re1, s1, pn, ot⟩
    | _ => cases h
/-- the names of a comprehension's target, as they were -/
theorem foldl_restore : ∀ (is : List Nat) (Ep0 Ep1 : Env), Ep1.length = Ep0.length → (∀ j, j ∉ is → Ep1[j]? = Ep0[j]?) → is.foldl (fun E i => E.set i (Ep0.getD i none)) Ep1 = Ep0
  | [], Ep0, Ep1, _, h => List.ext_getElem? fun j => h j (by simp)
  | i :: is, Ep0, Ep1, l, h => by
    refine foldl_restore is Ep0 _ (by simpa using l) fun j hj => ?_
    by_cases e : i = j
    · subst e
      by_cases hl : i < Ep0.length
      · rw [List.getElem?_set_self (by omega)]
        simp [List.getD, hl]
      · rw [List.getElem?_eq_none (by simp; omega), List.getElem?_eq_none (by omega)]
    · rw [List.getElem?_set_ne e, h j (by simp; exact ⟨fun z => e z.symm, hj⟩)]
theorem unAll_ok {M' : Store} {Sh' : FP} {E : VE} {Ep : Env} {B : FP} (re : RE M Sh E Ep B) (kp : ∀ n, Sh n → Sh' n ∧ M'[n]? = M[n]?) : ∀ (is : List Nat) {E3 : VE} {Ep3 : Env} {B3 : FP}, (∀ i ∈ is, tgFree.free1 E i = true) → RE M' Sh' E3 Ep3 B3 → ∃ B4 : FP, RE M' Sh' (is.foldl (fun E' i => E'.set i (E.getD i .gone)) E3) (is.foldl (fun E' i => E'.set i (Ep.getD i none)) Ep3) B4 ∧ ∀ n, B4 n → B3 n
  | [], E3, Ep3, B3, _, r => ⟨B3, r, fun _ h => h⟩
  | i :: is, E3, Ep3, B3, h, r => by
    have h1 := h i (List.mem_cons_self ..)
    have : ∃ B4 : FP, RE M' Sh' (E3.set i (E.getD i .gone)) (Ep3.set i (Ep.getD i none)) B4 ∧ ∀ n, B4 n → B3 n := by
      simp only [tgFree.free1] at h1
      split at h1
      · rename_i x hx
        obtain ⟨o, A0, B0, e0, r0, _⟩ := re.at hx
        rcases r0 with ⟨z, _⟩ | ⟨p, z, r0⟩
        · cases z
        · subst z
          obtain ⟨B4, r4, s4⟩ := r.setIm (i := i) (r0.1.mono kp)
          refine ⟨B4, ?_, s4⟩
          have e1 : E.getD i .gone = .im x := by simp [List.getD, hx]
          have e2 : Ep.getD i none = some p := by simp [List.getD, e0]
          rw [e1, e2]; exact r4
      · rename_i hx
        obtain ⟨B4, r4, s4⟩ := r.setGone (i := i) (Ep.getD i none)
        refine ⟨B4, ?_, s4⟩
        have e1 : E.getD i .gone = .gone := by simp [List.getD, hx]
        rw [e1]; exact r4
      · cases h1
    obtain ⟨B4, r4, s4⟩ := this
    obtain ⟨B5, r5, s5⟩ := unAll_ok re kp is (fun j hj => h j (List.mem_cons_of_mem _ hj)) r4
    exact ⟨B5, r5, fun n x => s4 n (s5 n x)⟩
theorem unTg_ok {M' : Store} {Sh' : FP} {g : Tg} {E E3 : VE} {Ep Ep1 : Env} {B B3 : FP} (re : RE M Sh E Ep B) (kp : ∀ n, Sh n → Sh' n ∧ M'[n]? = M[n]?) (fr : tgFree g E = true) (r : RE M' Sh' E3 Ep1 B3) (l : Ep1.length = Ep.length) (ot : ∀ j, j ∉ tgSlots g → Ep1[j]? = Ep[j]?) : ∃ B4 : FP, RE M' Sh' (unTg g E E3) Ep B4 ∧ ∀ n, B4 n → B3 n := by
  have key : ∀ is : List Nat, tgSlots g = is → (∀ i ∈ is, tgFree.free1 E i = true) → ∃ B4 : FP, RE M' Sh' (is.foldl (fun E' i => E'.set i (E.getD i .gone)) E3) Ep B4 ∧ ∀ n, B4 n → B3 n := by
    intro is e h
    obtain ⟨B4, r4, s4⟩ := unAll_ok re kp is h r
    rw [foldl_restore is Ep Ep1 l (by rw [← e]; exact ot)] at r4
    exact ⟨B4, r4, s4⟩
  cases g with
  | nm i => exact key [i] rfl (by intro j hj; simp at hj; subst hj; exact fr)
  | tup is => exact key is rfl (by simpa [tgFree, List.all_eq_true] using fr)
/-- the watched list stands still -/
def WOk (M : Store) (Sh : FP) (w : Watch) : Prop := w = none ∨ ∃ n ps, w = some (n, ps) ∧ Sh n ∧ M[n]? = some (.lst ps)
theorem WOk.ok {w : Watch} (h : WOk M Sh w) : w.ok M = true := by
  rcases h with rfl | ⟨n, ps, rfl, _, m⟩
  · rfl
  · simp [Watch.ok, m]
theorem WOk.mono {M' : Store} {Sh' : FP} {w : Watch} (h : WOk M Sh w) (kp : ∀ n, Sh n → Sh' n ∧ M'[n]? = M[n]?) : WOk M' Sh' w := by
  rcases h with h | ⟨n, ps, e, s, m⟩
  · exact .inl h
  · exact .inr ⟨n, ps, e, (kp n s).1, (kp n s).2.trans m⟩
def QI : Env → Store → FP → List I → (List PV × Watch) → FP → Prop := fun _ M Sh xs w A => RIs M Sh xs w.1 ∧ WOk M Sh w.2 ∧ ∀ n, ¬ A n
def QO : Env → Store → FP → Option V → Option PV → FP → Prop := fun _ M Sh v p A => (v = none ∧ p = none ∧ ∀ n, ¬ A n) ∨ ∃ x q, v = some x ∧ p = some q ∧ RV M Sh x q A
end
/-- the watched list stands still, or lies apart -/
def WOk2 (M : Store) (Sh F : FP) (w : Watch) : Prop := w = none ∨ ∃ n ps, w = some (n, ps) ∧ M[n]? = some (.lst ps) ∧ (Sh n ∨ ¬ F n)
theorem WOk.two {M : Store} {Sh F : FP} {w : Watch} (h : WOk M Sh w) : WOk2 M Sh F w := h.elim .inl fun ⟨n, ps, e, s, m⟩ => .inr ⟨n, ps, e, m, .inl s⟩
theorem WOk2.ok {M : Store} {Sh F : FP} {w : Watch} (h : WOk2 M Sh F w) : w.ok M = true := by
  rcases h with rfl | ⟨n, ps, rfl, m, _⟩
  · rfl
  · simp [Watch.ok, m]
theorem WOk2.step {M M1 : Store} {Sh Sh1 F A B C : FP} {w : Watch} (h : WOk2 M Sh F w) (ok : Ok M Sh F) (s : Stp M Sh B M1 Sh1 C) (hA : ∀ n, A n → F n) (hB : ∀ n, B n → F n) : WOk2 M1 Sh1 (fun n => A n ∨ C n) w := by
  rcases h with h | ⟨n, ps, e, m, h⟩
  · exact .inl h
  · have hl : n < M.length := (List.getElem?_eq_some_iff.1 m).1
    rcases h with h | h
    · have k := s.kept (ok.sub hB) n h
      exact .inr ⟨n, ps, e, k.2.trans m, .inl k.1⟩
    · refine .inr ⟨n, ps, e, (s.old n hl fun b => h (hB n b)).trans m, .inr ?_⟩
      rintro (x | x)
      · exact h (hA n x)
      · exact h (hB n (s.fp n x hl))
theorem vlcGo_ok {Ep : Env} {w : Watch} {sv : I → VE → R (Option V)} {sp : PV → Store → Res (Option PV)} (hs : ∀ (x : I) (p : PV) (E : VE) (M : Store) (Sh B : FP), RI M Sh x p → RE M Sh E Ep B → Ok M Sh B → (∀ C fs vs E1, sv x E ≠ .err C fs vs E1) → Out QO (sv x E) (sp p M) Ep M Sh B) :
    ∀ (xs : List I) {ps : List PV} {acc : List V} {qs : List PV} {E : VE} {M : Store} {Sh A B F : FP}, RIs M Sh xs ps → WOk2 M Sh F w → RVs M Sh acc qs A → RE M Sh E Ep B → (∀ n, A n → ¬ B n) → Ok M Sh F → (∀ n, (A n ∨ B n) → F n) → Out QVs (vlcGo sv xs acc E) (lcGo w sp ps qs M) Ep M Sh F
  | [], ps, acc, qs, E, M, Sh, A, B, F, r, wo, ra, re, d, ok, hF => by
    rw [show ps = [] from r]
    simp only [vlcGo, lcGo, wo.ok, if_true]
    exact ⟨qs, M, Sh, A, B, rfl, ra, re, d, (Stp.refl ok).drop hF⟩
  | x :: xs, _, acc, qs, E, M, Sh, A, B, F, ⟨p, ps, e, r, rs⟩, wo, ra, re, d, ok, hF => by
    rw [e]
    simp only [vlcGo]
    by_cases hb : acc.length < big
    · rw [if_pos hb]
      have hb' : qs.length < big := by rw [ra.length]; exact hb
      cases hr : sv x E with
      | bad => trivial
      | err => trivial
      | ok o E1 =>
        have hA : ∀ n, A n → F n := fun n h => hF n (.inl h)
        have hB : ∀ n, B n → F n := fun n h => hF n (.inr h)
        have st := hs x p E M Sh B r re (ok.sub hB) (by rw [hr]; intro C fs vs E1 z; cases z)
        rw [hr] at st
        obtain ⟨b, M1, Sh1, A1, B1, e1, q, re1, di, s⟩ := st
        have okA := ok.sub hA
        have okB := ok.sub hB
        have gA := s.gok okA d
        have dA := s.dis okA d
        have okk : Ok M1 Sh1 (fun n => A n ∨ A1 n ∨ B1 n) := ⟨fun n h => h.elim (gA.lt n) (s.ok.lt n), fun n h => h.elim (gA.ns n) (s.ok.ns n), s.ok.sl⟩
        have kp := s.kept okB
        have rs1 := rs.mono kp
        have ra1 := ra.mono kp (fun n h => s.old n (okA.lt n h) (d n h))
        have wo1 : WOk2 M1 Sh1 (fun n => A n ∨ A1 n ∨ B1 n) w := wo.step ok s hA hB
        have s' : Stp M Sh F M1 Sh1 (fun n => A n ∨ A1 n ∨ B1 n) := ⟨s.len, fun n hn hf => s.old n hn fun b => hf (hB n b), s.up, fun n hn hs => (s.dn n hn hs).elim .inl fun b => .inr (hB n b), fun n f hn => f.elim (hA n) fun f => hB n (s.fp n f hn), okk⟩
        have fin : ∀ {r : R (List V)} {out : Res (List PV)}, Out QVs r out Ep M1 Sh1 (fun n => A n ∨ A1 n ∨ B1 n) → Out QVs r out Ep M Sh F := by
          intro r out t'
          cases r with
          | bad => trivial
          | err C fs vs E2 =>
            obtain ⟨qs, M2, Sh2, B2, e2, l2, q2, re2, s2⟩ := t'
            exact ⟨qs, M2, Sh2, B2, e2, l2, q2, re2, s'.seq s2 (fun _ h => h) (G := fun _ => False) (fun _ h => h.elim) (fun _ h => .inr h)⟩
          | ok c E2 =>
            obtain ⟨b2, M2, Sh2, A2, B2, e2, q2, re2, di2, s2⟩ := t'
            exact ⟨b2, M2, Sh2, A2, B2, e2, q2, re2, di2, s'.seq s2 (fun _ h => h) (G := fun _ => False) (fun _ h => h.elim) (fun _ h => .inr h)⟩
        simp only [lcGo, wo.ok, hb', e1, Bool.true_and, decide_true, if_true]
        rcases q with ⟨rfl, rfl, em⟩ | ⟨y, q, rfl, rfl, ry⟩
        · exact fin (vlcGo_ok hs xs rs1 wo1 ra1 re1 (fun n x y => dA n x (.inr y)) okk (fun n x => x.elim .inl fun x => .inr (.inr x)))
        · exact fin (vlcGo_ok hs xs rs1 wo1 (ra1.append (.one ry) fun n x y => dA n x (.inl y)) re1 (fun n x => x.elim (fun x y => dA n x (.inr y)) (di n)) okk (fun n x => x.elim (fun x => x.elim .inl fun x => .inr (.inl x)) fun x => .inr (.inr x)))
    · rw [if_neg hb]; trivial
end Wn
end
section
/-! Vs8: expressions. -/
namespace Wn
open PySem
section
variable {M : Store} {Sh F B : FP} {E : VE} {Ep : Env}
theorem op1_inv {α : Type} {f : I → Option α} {x : V} {z : α} (h : op1 f x = some z) : ∃ a, x.flat = some a ∧ f a = some z := by
  simp only [op1] at h
  split at h
  · rename_i a ha; exact ⟨a, ha, h⟩
  · cases h
theorem op2_inv {α : Type} {f : I → I → Option α} {x y : V} {z : α} (h : op2 f x y = some z) : ∃ a b, x.flat = some a ∧ y.flat = some b ∧ f a b = some z := by
  simp only [op2] at h
  split at h
  · rename_i a b ha hb; exact ⟨a, b, ha, hb, h⟩
  · cases h
theorem Out.liftV {α β : Type} {Q : Env → Store → FP → α → β → FP → Prop} {o : Option α} {out : Res β} (h : ∀ a, o = some a → Out Q (.ok a E) out Ep M Sh F) : Out Q (liftV E o) out Ep M Sh F := by
  cases o with
  | none => trivial
  | some a => exact h a rfl
theorem Out.liftT {o : Option Bool} {out : Res PV} (h : ∀ b, o = some b → Out QV (.ok (.im (.bl b)) E) out Ep M Sh F) : Out QV (liftT E o) out Ep M Sh F := by
  cases o with
  | none => trivial
  | some a => exact h a rfl
def RB (Ep : Env) (M : Store) (Sh : FP) : List V → List PV → FP → Prop
  | [], ps, _ => ps = []
  | [x], ps, A => ∃ p, ps = [p] ∧ QW true Ep M Sh x p A
  | x :: y :: xs, ps, A => ∃ (p : PV) (qs : List PV) (B C : FP), ps = p :: qs ∧ RV M Sh x p B ∧ RB Ep M Sh (y :: xs) qs C ∧ (∀ n, B n → ¬ C n) ∧ ∀ n, A n ↔ (B n ∨ C n)
def QB : Env → Store → FP → List V → List PV → FP → Prop := fun Ep M Sh vs ps A => RB Ep M Sh vs ps A
theorem mkTup_rv {vs : List V} {ps : List PV} {A : FP} (r : RVs M Sh vs ps A) : RV M Sh (mkTup vs) (.tup ps) A := by
  simp only [mkTup]
  split
  · rename_i xs h
    obtain ⟨r1, em⟩ := r.ims h
    exact ⟨⟨ps, rfl, r1⟩, em⟩
  · exact ⟨ps, rfl, r⟩
theorem vPairs_ok : ∀ {vs : List V} {ps : List PV} {A : FP} {ks : List I} {ws : List V} {qs : List PV} {G : FP} {dd : List I × List V}, RVs M Sh vs ps A → Knd.ok (.dic ks) qs.length → RVs M Sh ws qs G → (∀ n, A n → ¬ G n) → vPairs (ks, ws) vs = some dd →
    ∃ kvs qs' G', flatPairs ps = some kvs ∧ mergeD ((ks.map keyPV).zip qs) kvs = (dd.1.map keyPV).zip qs' ∧ RVs M Sh dd.2 qs' G' ∧ Knd.ok (.dic dd.1) qs'.length ∧ (∀ n, G' n → A n ∨ G n) ∧ kvs.length * 2 = vs.length
  | [], _, A, ks, ws, qs, G, dd, r, o, s, d, h => by
    cases h
    exact ⟨[], qs, G, by rw [r.1]; rfl, rfl, s, o, fun _ h => .inr h, rfl⟩
  | [v], _, A, ks, ws, qs, G, dd, r, o, s, d, h => by
    cases v <;> cases h
  | k :: v :: vs, _, A, ks, ws, qs, G, dd, ⟨pk, t1, K1, K2, e1, rk, ⟨pv, t2, V1, V2, e2, rv, rs, d2, f2⟩, d1, f1⟩, o, s, d, h => by
    cases k with
    | im k =>
      simp only [vPairs] at h
      split at h
      · rename_i hk
        obtain ⟨ek, ik⟩ := rk.1.key hk
        have hA : ∀ n, (V1 n ∨ V2 n) → A n := fun n x => (f1 n).2 (.inr ((f2 n).2 x))
        have l : (putV k v (ks, ws)).1 = (putV k pv (ks, qs)).1 := putV_len
        have o' := putV_ok (v := pv) hk o
        rw [← l] at o'
        obtain ⟨G', rG, sG⟩ : ∃ G' : FP, RVs M Sh (putV k v (ks, ws)).2 (putV k pv (ks, qs)).2 G' ∧ ∀ n, G' n → G n ∨ V1 n := by
          simp only [putV]
          cases hj : keyIx k ks with
          | none => exact ⟨_, s.append (.one rv) fun n x y => d n (hA n (.inl y)) x, fun _ h => h⟩
          | some j =>
            have := (keyIx_lt hj).1
            exact s.setAt (by rw [o.1, s.length] at this; exact this) rv (fun n x y => d n (hA n (.inl y)) x)
        obtain ⟨kvs, qs', G2, a, b, c1, c2, c3, c4⟩ := vPairs_ok (ks := (putV k v (ks, ws)).1) (ws := (putV k v (ks, ws)).2) (qs := (putV k pv (ks, qs)).2) rs o' rG (fun n x y => (sG n y).elim (d n (hA n (.inr x))) fun y => d2 n y x) h
        refine ⟨(pk, pv) :: kvs, qs', G2, ?_, ?_, c1, c2, fun n x => (c3 n x).elim (fun x => .inl (hA n (.inr x))) fun x => (sG n x).elim .inr fun x => .inl (hA n (.inl x)), by simp; omega⟩
        · rw [e1, e2]
          simp only [flatPairs, ik, if_true, a, Option.map_some]
        · simp only [mergeD]
          rw [ek, putD_zip hk o.2.2 o.2.1 o.1, ← l]
          exact b
      · cases h
    | _ => cases h
theorem RIs.enum {xs : List I} : ∀ {ps : List PV} (k : Nat), RIs M Sh xs ps → RIs M Sh (iEnum k xs) (enumFrom k ps) := by
  induction xs with
  | nil => intro ps k r; rw [show ps = [] from r]; rfl
  | cons x xs ih =>
    rintro ps k ⟨p, qs, e, r, rs⟩
    rw [e]
    exact ⟨_, _, rfl, ⟨_, rfl, _, _, rfl, rfl, p, [], rfl, r, rfl⟩, ih (k + 1) rs⟩
theorem RIs.of_map {α : Type} (f : α → I) (g : α → PV) (h : ∀ a, RI M Sh (f a) (g a)) : ∀ l : List α, RIs M Sh (l.map f) (l.map g)
  | [] => rfl
  | a :: l => ⟨_, _, rfl, h a, RIs.of_map f g h l⟩
theorem freeze_flat {v : V} {x : I} (h : v.freeze = some x) : ∀ {p : PV} {A : FP}, RV M Sh v p A → RI M (fun n => Sh n ∨ A n) x p := fun r => r.freeze h
end

variable {c : VC} {d : Ctx} (L : Lnk c d)
section
variable {M : Store} {Sh F : FP} {E : VE} {Ep : Env}
include L in
theorem place_ok {e : Ex} {i : Nat} {js : List Nat} (re : RE M Sh E Ep F) (ok : Ok M Sh F) (h : plc c E e = some (i, js)) : Out QV (rd E i js) (evE d e Ep M) Ep M Sh F := by
  cases hp : peekE E i js with
  | none => simp only [rd, hp]; trivial
  | some w =>
    by_cases hg : w = .gone
    · subst hg; simp only [rd, hp, V.freeze]; trivial
    · obtain ⟨p, q, e1, e2, e3⟩ := plc_ok L re e h hp hg
      rw [e3]; exact rd_ok re ok e1 e2
include L in
theorem placeT_ok {e : Ex} {i : Nat} {js : List Nat} (re : RE M Sh E Ep F) (ok : Ok M Sh F) (h : plc c E e = some (i, js)) : Out QV (take E i js) (evE d e Ep M) Ep M Sh F := by
  cases hp : peekE E i js with
  | none => simp only [take, hp]; trivial
  | some w =>
    by_cases hg : w = .gone
    · subst hg; simp only [take, hp]; trivial
    · obtain ⟨p, q, e1, e2, e3⟩ := plc_ok L re e h hp hg
      rw [e3]; exact take_ok re ok e1 e2
end
/-- for every expression -/
abbrev SV (c : VC) (d : Ctx) (e : Ex) : Prop := ∀ {E : VE} {M : Store} {Sh : FP} {Ep : Env} {F : FP}, RE M Sh E Ep F → Ok M Sh F → Out QV (vE c e E) (evE d e Ep M) Ep M Sh F
abbrev SVT (c : VC) (d : Ctx) (e : Ex) : Prop := ∀ {E : VE} {M : Store} {Sh : FP} {Ep : Env} {F : FP}, RE M Sh E Ep F → Ok M Sh F → Out QE (vT c e E) (evT d e Ep M) Ep M Sh F

section parts
include L
theorem sv_cmp {a b : Ex} (sa : SV c d a) (sb : SV c d b) {E : VE} {M : Store} {Sh : FP} {Ep : Env} {F : FP} (re : RE M Sh E Ep F) (ok : Ok M Sh F) {γ δ : Type} {Q' : Env → Store → FP → γ → δ → FP → Prop} {k : V → V → VE → R γ} {h : PV → PV → Store → Res δ}
    (t : ∀ (x y : V) (E2 : VE) (p q : PV) (M2 : Store) (Sh2 B2 F2 : FP), (∀ a, x.flat = some a → RF M2 Sh2 a p) → (∀ b, y.flat = some b → RF M2 Sh2 b q) → RE M2 Sh2 E2 Ep B2 → Ok M2 Sh2 F2 → (∀ n, B2 n → F2 n) → Out Q' (k x y E2) (h p q M2) Ep M2 Sh2 F2) :
    Out Q' ((view (plc c E a) (still b) E (vE c a E)).bind fun x E1 => (view (plc c E1 b) true E1 (vE c b E1)).bind fun y E2 => k x y E2) ((evE d a Ep M).bind fun x M1 => (evE d b Ep M1).bind fun y M2 => h x y M2) Ep M Sh F := by
  refine (view_ok L re ok (sa re ok)).bind ok fun x E1 p M1 Sh1 A1 B1 _ _ q1 re1 di1 ok1 kp1 le1 => ?_
  refine (view_ok L re1 (ok1.sub fun _ h => .inr h) (sb re1 (ok1.sub fun _ h => .inr h))).bindF (A := A1) ok1 (fun _ h => .inl h) (fun _ h => .inr h) di1 fun y E2 q M2 Sh2 A2 B2 _ e2 q2 re2 di2 dA ok2 kp2 kA le2 => ?_
  exact t x y E2 p q M2 Sh2 B2 _ (fun a ha => q1 M2 Sh2 kp2 kA (fun hst => (still_adds b hst e2).old) a ha) (fun b hb => q2.rf hb) re2 ok2 (fun n h => .inr (.inr h))
theorem sv_bin {a b : Ex} (sa : SV c d a) (sb : SV c d b) {E : VE} {M : Store} {Sh : FP} {Ep : Env} {F : FP} (re : RE M Sh E Ep F) (ok : Ok M Sh F) {γ δ : Type} {Q' : Env → Store → FP → γ → δ → FP → Prop} {k : V → V → VE → R γ} {h : PV → PV → Store → Res δ}
    (t : ∀ (x y : V) (E2 : VE) (p q : PV) (M2 : Store) (Sh2 A1 A2 B2 F2 : FP), RV M2 Sh2 x p A1 → RV M2 Sh2 y q A2 → RE M2 Sh2 E2 Ep B2 → Ok M2 Sh2 F2 → (∀ n, A1 n → ¬ B2 n) → (∀ n, A2 n → ¬ B2 n) → (∀ n, A1 n → ¬ A2 n) → (∀ n, (A1 n ∨ A2 n ∨ B2 n) ↔ F2 n) → Out Q' (k x y E2) (h p q M2) Ep M2 Sh2 F2) :
    Out Q' ((vE c a E).bind fun x E1 => (vE c b E1).bind fun y E2 => k x y E2) ((evE d a Ep M).bind fun x M1 => (evE d b Ep M1).bind fun y M2 => h x y M2) Ep M Sh F := by
  refine (sa re ok).bind ok fun x E1 p M1 Sh1 A1 B1 _ _ q1 re1 di1 ok1 kp1 le1 => ?_
  refine (sb re1 (ok1.sub fun _ h => .inr h)).bindF (A := A1) ok1 (fun _ h => .inl h) (fun _ h => .inr h) di1 fun y E2 q M2 Sh2 A2 B2 _ e2 q2 re2 di2 dA ok2 kp2 kA le2 => ?_
  exact t x y E2 p q M2 Sh2 A1 A2 B2 _ (RV.mono kp2 kA q1) q2 re2 ok2 (fun n h => (dA n h).2) di2 (fun n h => (dA n h).1) (fun _ => Iff.rfl)
theorem sv_idx {a b : Ex} (sa : SV c d a) (sb : SV c d b) {E : VE} {M : Store} {Sh : FP} {Ep : Env} {F : FP} (re : RE M Sh E Ep F) (ok : Ok M Sh F) : Out QV (match plc c E (.idx a b) with
    | some (i, js) => rd E i js
    | none => (match isVar a with
      | some i => if isGone E i then .bad else (vE c b E).bind fun y E1 => (view (some (i, [])) true E1 .bad).bind fun x E2 => liftV E2 ((op2 iIdx x y).map .im)
      | none => (view (plc c E a) (still b) E (vE c a E)).bind fun x E1 => (vE c b E1).bind fun y E2 => liftV E2 ((op2 iIdx x y).map .im))) (evE d (.idx a b) Ep M) Ep M Sh F := by
  split
  · rename_i i js hp
    exact place_ok L re ok hp
  · cases hv : isVar a with
    | some i =>
      simp only
      split
      · trivial
      · rename_i hg
        have ha : a = .var i := by cases a <;> simp [isVar] at hv; rw [hv]
        subst ha
        have : ∃ p, Ep[i]? = some (some p) := by
          simp only [isGone] at hg
          split at hg
          · simp at hg
          · simp at hg
          · rename_i h1 h2
            cases hv : E[i]? with
            | none => exact absurd hv h2
            | some v => exact re.var hv (fun z => h1 (by rw [hv, z]))
        obtain ⟨p, ep⟩ := this
        simp only [evE, ep, Res.bind_ok]
        refine (sb re ok).bind ok fun y E2 q M2 Sh2 A2 B2 _ e2 q2 re2 di2 ok2 kp2 le2 => ?_
        simp only [view]
        cases hE : peekE E2 i [] with
        | none => trivial
        | some x =>
          by_cases hx : x = .gone
          · subst hx; trivial
          obtain ⟨p', q', A3, B3, e3, e4, r3, _⟩ := re2.peek hE hx
          rw [ep] at e3; cases e3; cases e4
          have fin : Out QV (liftV E2 ((op2 iIdx x y).map .im)) (lift M2 (doIdx M2 p q)) Ep M2 Sh2 (fun n => A2 n ∨ B2 n) := by
            refine Out.liftV fun z hz => ?_
            cases ho : op2 iIdx x y with
            | none => rw [ho] at hz; cases hz
            | some w =>
              rw [ho] at hz; cases hz
              obtain ⟨u, v, hu, hv, hw⟩ := op2_inv ho
              obtain ⟨pw, e5, r5⟩ := (r3.rf hu).idx (RV.rf q2 hv) hw
              rw [e5]
              exact Out.im re2 ok2 (fun n h => .inr h) r5
          cases x with
          | im x => exact fin
          | gone => exact absurd rfl hx
          | tup vs => exact fin
          | obj k vs => exact fin
    | none =>
    simp only
    refine (view_ok L re ok (sa re ok)).bind ok fun x E1 p M1 Sh1 A1 B1 _ _ q1 re1 di1 ok1 kp1 le1 => ?_
    refine (sb re1 (ok1.sub fun _ h => .inr h)).bindF (A := A1) ok1 (fun _ h => .inl h) (fun _ h => .inr h) di1 fun y E2 q M2 Sh2 A2 B2 _ e2 q2 re2 di2 dA ok2 kp2 kA le2 => ?_
    refine Out.liftV fun z hz => ?_
    cases ho : op2 iIdx x y with
    | none => rw [ho] at hz; cases hz
    | some w =>
      rw [ho] at hz; cases hz
      obtain ⟨u, v, hu, hv, hw⟩ := op2_inv ho
      have r1 := q1 M2 Sh2 kp2 kA (fun hst => (still_adds b hst e2).old) u hu
      obtain ⟨pw, e3, r3⟩ := r1.idx (RV.rf q2 hv) hw
      rw [e3]
      exact Out.im re2 ok2 (fun n h => .inr (.inr h)) r3
theorem sv_call {f : Str} {es : Exs} {E : VE} {M : Store} {Sh : FP} {Ep : Env} {F : FP} (ok : Ok M Sh F) (sa : Out QA (vAs c (c.io f) es E) (evEs d es Ep M) Ep M Sh F) : Out QV ((vAs c (c.io f) es E).bind fun as E1 => doCall as E1 (c.call f)) ((evEs d es Ep M).bind fun xs M1 => d.call f xs M1) Ep M Sh F := by
  refine sa.bind ok fun as E1 ps M1 Sh1 A1 B1 _ _ q1 re1 di1 ok1 kp1 le1 => ?_
  exact doCall_ok (L.call f) q1 re1 di1 ok1 fun _ h => h
theorem sv_bi {f : Bi} {es : Exs} {E : VE} {M : Store} {Sh : FP} {Ep : Env} {F : FP} (ok : Ok M Sh F) (sa : Out QB (vB c es E) (evEs d es Ep M) Ep M Sh F) : Out QV ((vB c es E).bind fun xs E1 => (match xs with
    | [x] => liftV E1 (op1 (fun x => iBi f [x]) x)
    | [x, y] => liftV E1 (op2 (fun x y => iBi f [x, y]) x y)
    | _ => .bad)) ((evEs d es Ep M).bind fun xs M1 => doBi M1 f xs) Ep M Sh F := by
  refine sa.bind ok fun as E1 ps M1 Sh1 A1 B1 _ _ q1 re1 di1 ok1 kp1 le1 => ?_
  split
  · rename_i x
    obtain ⟨p, e, q⟩ := q1
    refine Out.liftV fun z hz => ?_
    obtain ⟨a, ha, hf⟩ := op1_inv hz
    obtain ⟨w, M', e2, n⟩ := (q.rf ha).bi1 ok1.sl hf
    rw [e, e2]
    exact Out.new re1 ok1 (fun n h => .inr h) n
  · rename_i x y
    obtain ⟨p, qs, B, C, e, r1, ⟨p2, e2, q2⟩, _⟩ := q1
    refine Out.liftV fun z hz => ?_
    obtain ⟨a, b, ha, hb, hf⟩ := op2_inv hz
    obtain ⟨w, M', e3, n⟩ := (r1.rf ha).bi2 ok1.sl (q2.rf hb) hf
    rw [e, e2, e3]
    exact Out.new re1 ok1 (fun n h => .inr h) n
  · trivial
theorem clsOf_ok {v : V} {p : PV} {A : FP} {C : Str} {fs : List Str} {M : Store} {Sh : FP} (r : RV M Sh v p A) (h : clsOf v = some (C, fs)) : ∃ n gs, p = .loc n ∧ M[n]? = some (.ins C gs) ∧ ∀ m, m ∉ fs → gs.lookup m = none := by
  have key : ∀ {ps : List PV} {m : Str}, m ∉ fs → (fs.zip ps).lookup m = none := by
    intro ps m hm
    rw [lookupF_zip, fldIx_none.2 hm]; rfl
  simp only [clsOf] at h
  split at h
  · cases h
    obtain ⟨n, ps, G, e, mm, _⟩ := r
    exact ⟨n, _, e, mm, fun m hm => key hm⟩
  · cases h
    obtain ⟨⟨n, ps, e, _, mm, _⟩, _⟩ := r
    exact ⟨n, _, e, mm, fun m hm => key hm⟩
  · cases h
def QR : Env → Store → FP → (Arg × V) → PV → FP → Prop := fun Ep M Sh a p A => RA Ep M Sh [a.1] [p] A ∧ ∃ G, RV M Sh a.2 p G
theorem recv_ok {o : Ex} (so : SV c d o) {E : VE} {M : Store} {Sh : FP} {Ep : Env} {F : FP} (re : RE M Sh E Ep F) (ok : Ok M Sh F) : Out QR (recv (isVar o) E (vE c o E)) (evE d o Ep M) Ep M Sh F := by
  simp only [recv]
  split
  · rename_i i hi
    split
    · trivial
    · rename_i v hg hv
      have : o = .var i := by
        cases o <;> simp [isVar] at hi; rw [hi]
      subst this
      obtain ⟨p, q, A, B, e1, e2, r1, _⟩ := re.peek (i := i) (js := []) (w := v) (by simp only [peekE, hv, V.peek]) (fun h => hg h)
      cases e2
      simp only [evE, e1]
      exact ⟨p, M, Sh, fun _ => False, F, rfl, ⟨⟨p, [], rfl, e1, rfl, fun _ h => h⟩, A, r1⟩, re, fun _ h => h.elim, (Stp.refl ok).drop fun n h => h.elim False.elim id⟩
    · trivial
  · have := so re ok
    cases hr : vE c o E with
    | bad => trivial
    | err C fs vs E1 => rw [hr] at this; exact this
    | ok v E1 =>
      rw [hr] at this
      obtain ⟨p, M', Sh', A, B, e, q, re', di, s⟩ := this
      exact ⟨p, M', Sh', A, B, e, ⟨⟨p, [], A, fun _ => False, rfl, q, ⟨rfl, fun _ h => h⟩, fun _ _ h => h, fun n => ⟨.inl, fun h => h.elim id False.elim⟩⟩, A, q⟩, re', di, s⟩
theorem sv_meth {o : Ex} {m : Str} {es : Exs} (so : SV c d o) (sa : ∀ {io : List Bool} {E : VE} {M : Store} {Sh : FP} {Ep : Env} {F : FP}, RE M Sh E Ep F → Ok M Sh F → Out QA (vAs c io es E) (evEs d es Ep M) Ep M Sh F) {E : VE} {M : Store} {Sh : FP} {Ep : Env} {F : FP} (re : RE M Sh E Ep F) (ok : Ok M Sh F) :
    Out QV ((recv (isVar o) E (vE c o E)).bind fun ov E1 => (match clsOf ov.2 with
    | some (C, fs) => if m ∈ fs then .bad else (vAs c (c.ioM C m).tail es E1).bind fun as E2 => doCall (ov.1 :: as) E2 (c.meth C m)
    | none => .bad)) (evE d (.meth o m es) Ep M) Ep M Sh F := by
  simp only [evE]
  refine (recv_ok L so re ok).bind ok fun ov E1 p M1 Sh1 A1 B1 _ _ q1 re1 di1 ok1 kp1 le1 => ?_
  split
  · rename_i C fs hc
    split
    · trivial
    · rename_i hm
      obtain ⟨q1, G, rG⟩ := q1
      obtain ⟨n, gs, e, mm, hl⟩ := clsOf_ok L rG hc
      simp only [e, mm, hl m hm]
      rw [e] at q1
      refine (sa re1 (ok1.sub fun _ h => .inr h)).bindF (A := A1) ok1 (fun _ h => .inl h) (fun _ h => .inr h) di1 fun as E2 ps M2 Sh2 A2 B2 _ e2 q2 re2 di2 dA ok2 kp2 kA le2 => ?_
      obtain ⟨a, v0⟩ := ov
      cases a with
      | v v =>
        obtain ⟨p', qs, D1, D2, e3, r3, ⟨e4, em⟩, d3, f3⟩ := q1
        cases e3
        refine doCall_ok (A := fun n => A1 n ∨ A2 n) (L.meth C m) ⟨_, ps, D1, A2, rfl, RV.mono kp2 (fun n x => kA n ((f3 n).2 (.inl x))) r3, q2, fun n x => (dA n ((f3 n).2 (.inl x))).1, fun n => ?_⟩ re2 ?_ ok2 ?_
        · constructor
          · rintro (x | x)
            · exact ((f3 n).1 x).elim .inl fun y => (em n y).elim
            · exact .inr x
          · rintro (x | x)
            · exact .inl ((f3 n).2 (.inl x))
            · exact .inr x
        · rintro n (x | x)
          · exact (dA n x).2
          · exact di2 n x
        · rintro n ((x | x) | x)
          · exact .inl x
          · exact .inr (.inl x)
          · exact .inr (.inr x)
      | ln i =>
        obtain ⟨p', qs, e3, e4, e5⟩ := q1
        cases e3
        exact doCall_ok (L.meth C m) ⟨_, ps, rfl, e4, q2⟩ re2 di2 ok2 fun n x => x.elim (fun x => .inr (.inl x)) fun x => .inr (.inr x)
  · trivial
theorem sv_truth {k : R V} {out : Res PV} {M : Store} {Sh : FP} {Ep : Env} {F : FP} (ok : Ok M Sh F) (o : Out QV k out Ep M Sh F) : Out QE (k.bind fun x E2 => liftV E2 (op1 iTruth x)) (out.bind fun x M2 => lift M2 (truth M2 x)) Ep M Sh F := by
  refine o.bind ok fun x E1 p M1 Sh1 A1 B1 _ _ q1 re1 di1 ok1 kp1 le1 => ?_
  refine Out.liftV fun b hb => ?_
  obtain ⟨a, ha, ht⟩ := op1_inv hb
  rw [(RV.rf q1 ha).truth ht]
  exact Out.val re1 ok1 fun _ h => .inr h
theorem sv_lc {elt : Ex} {g : Tg} {it : Ix} {cond : Ox} (se : SV c d elt) (sc : ∀ {E : VE} {M : Store} {Sh : FP} {Ep : Env} {F : FP}, RE M Sh E Ep F → Ok M Sh F → Out QE (vC c cond E) (evC d cond Ep M) Ep M Sh F) {E : VE} {M : Store} {Sh : FP} {Ep : Env} {F : FP} (re : RE M Sh E Ep F) (ok : Ok M Sh F) (si : Out QI (vI c it E) (evI d it Ep M) Ep M Sh F) : Out QV (vE c (.lc elt g it cond) E) (evE d (.lc elt g it cond) Ep M) Ep M Sh F := by
  simp only [vE, evE]
  have go := fun (w : Watch) => vlcGo_ok (Ep := Ep) (w := w) (sv := fun x E => match (if tgFree g E then vSetTg [] g (.im x) E else none) with
      | some E1 => (vC c cond E1).bind fun k E2 => if k = true then (vE c elt E2).bind fun y E3 => .ok (some y) (unTg g E E3) else .ok none (unTg g E E2)
      | none => .bad) (sp := fun x M => match setTg g x Ep with
      | some E1 => (evC d cond E1 M).bind fun k M2 => if k = true then (evE d elt E1 M2).bind fun y M3 => .ok (some y) M3 else .ok none M2
      | none => .bad) (by
    intro x p E M Sh B rx re ok hne
    by_cases hf : tgFree g E = true
    · simp only [hf, if_true]
      cases hs : vSetTg [] g (.im x) E with
      | none => trivial
      | some E1 =>
        simp only
        obtain ⟨Ep1, B1, e1, re1, s1, pn, ot⟩ := setTg_ok (A := fun _ => False) (v := .im x) ⟨rx, fun _ h => h⟩ re (fun _ h => h.elim) hs
        have ok1 : Ok M Sh B1 := ok.sub fun n h => (s1 n h).elim False.elim id
        have hB : ∀ n, B1 n → B n := fun n h => (s1 n h).elim False.elim id
        rw [e1]
        simp only
        -- under the target's names, then back
        have inner : Out QO ((vC c cond E1).bind fun k E2 => if k = true then (vE c elt E2).bind fun y E3 => .ok (some y) E3 else .ok none E2) ((evC d cond Ep1 M).bind fun k M2 => if k = true then (evE d elt Ep1 M2).bind fun y M3 => .ok (some y) M3 else .ok none M2) Ep1 M Sh B1 := by
          refine (sc re1 ok1).bind ok1 fun k E2 k2 M2 Sh2 A2 B2 _ _ q2 re2 di2 ok2 kp2 le2 => ?_
          obtain ⟨rfl, em2⟩ := q2
          cases k with
          | false => exact ⟨none, M2, Sh2, fun _ => False, B2, rfl, .inl ⟨rfl, rfl, fun _ h => h⟩, re2, fun _ h => h.elim, (Stp.refl ok2).drop fun n h => h.elim False.elim .inr⟩
          | true =>
            refine ((se re2 (ok2.sub fun _ h => .inr h)).widen (F := fun n => A2 n ∨ B2 n) fun _ h => .inr h).bind ok2 fun y E3 q M3 Sh3 A3 B3 _ _ q3 re3 di3 ok3 kp3 le3 => ?_
            exact ⟨some q, M3, Sh3, A3, B3, rfl, .inr ⟨y, q, rfl, rfl, q3⟩, re3, di3, Stp.refl ok3⟩
        have hv : ((vC c cond E1).bind fun k E2 => if k = true then (vE c elt E2).bind fun y E3 => .ok (some y) (unTg g E E3) else .ok none (unTg g E E2)) = match ((vC c cond E1).bind fun k E2 => if k = true then (vE c elt E2).bind fun y E3 => .ok (some y) E3 else .ok none E2 : R (Option V)) with
            | .ok o E3 => .ok o (unTg g E E3)
            | r => r := by
          cases hc : vC c cond E1 with
          | ok k E2 =>
            cases k with
            | false => rfl
            | true =>
              simp only [R.bind, if_true]
              cases vE c elt E2 <;> rfl
          | err => rfl
          | bad => rfl
        rw [hv]
        cases hr : ((vC c cond E1).bind fun k E2 => if k = true then (vE c elt E2).bind fun y E3 => .ok (some y) E3 else .ok none E2 : R (Option V)) with
        | bad => trivial
        | err C fs vs E3 =>
          exact absurd (by simp only [hf, if_true, hs]; rw [hv, hr]) (hne C fs vs E3)
        | ok o E3 =>
          rw [hr] at inner
          obtain ⟨b, M', Sh', A', B', e, q, re', di, s⟩ := inner
          obtain ⟨B4, r4, s4⟩ := unTg_ok re (s.kept ok1) hf re' pn.1 ot
          exact ⟨b, M', Sh', A', B4, e, q, r4, fun n x y => di n x (s4 n y), (s.widen hB).drop fun n h => h.elim .inl fun h => .inr (s4 n h)⟩
    · simp only [hf]; trivial)
  cases hl : lockOf g it E with
  | none =>
    simp only
    refine si.bind ok fun xs E1 w M1 Sh1 A1 B1 _ _ q1 re1 di1 ok1 kp1 le1 => ?_
    obtain ⟨rx, wo, em⟩ := q1
    refine (go w.2 xs (acc := []) (qs := []) (A := fun _ => False) rx wo.two ⟨rfl, fun _ h => h⟩ re1 (fun _ h => h.elim) ok1 (fun n h => h.elim False.elim .inr)).bind ok1 fun ys E2 ps M2 Sh2 A2 B2 _ _ q2 re2 di2 ok2 kp2 le2 => ?_
    refine ⟨.loc M2.length, M2 ++ [.lst ps], Sh2, fun n => n = M2.length ∨ A2 n, B2, rfl, ⟨M2.length, ps, A2, rfl, by simp [objOf], trivial, RVs.mono (app_kept ok2.sl) (fun n h => List.getElem?_append_left (ok2.lt n (.inl h))) q2, fun h => by have := ok2.lt _ (.inl h); omega, fun _ => Iff.rfl⟩, re2.mono (app_kept ok2.sl) (fun n h => List.getElem?_append_left (ok2.lt n (.inr h))), ?_, Stp.new ok2 _ ?_⟩
    · rintro n (rfl | h) h2
      · have := ok2.lt _ (.inr h2); omega
      · exact di2 n h h2
    · rintro n ((h | h) | h)
      · exact .inr h
      · exact .inl (.inl h)
      · exact .inl (.inr h)
  | some t =>
    obtain ⟨i, vs, xs⟩ := t
    simp only
    -- a name that holds a list of one's own
    have hit : it = .of (.var i) ∧ E[i]? = some (.obj .lst vs) ∧ ims vs = some xs := by
      unfold lockOf at hl
      split at hl
      · rename_i j
        split at hl
        · cases hl
        · cases hE : E[j]? with
          | none => rw [hE] at hl; cases hl
          | some v =>
            rw [hE] at hl
            cases v with
            | obj k ws =>
              cases k with
              | lst =>
                simp only [lockV] at hl
                cases hi : ims ws with
                | none => rw [hi] at hl; cases hl
                | some ys => rw [hi] at hl; cases hl; exact ⟨rfl, hE, hi⟩
              | _ => cases hl
            | _ => cases hl
      · cases hl
    obtain ⟨rfl, hE, hi⟩ := hit
    obtain ⟨o, A0, B0, e0, r0, d0, f0, k0⟩ := re.at hE
    rcases r0 with ⟨z, _⟩ | ⟨p, rfl, r0⟩
    · cases z
    obtain ⟨n, ps, G, ep, mm, ko, rx, hn, ff⟩ := id r0
    simp only [objOf] at mm
    have rI := (rx.ims hi).1
    have re0 := k0 M Sh .gone (some p) (fun _ => False) (fun n h => ⟨h, rfl⟩) (fun _ _ => rfl) (.inl ⟨rfl, fun _ h => h⟩) (fun _ h => h.elim)
    rw [set_same e0] at re0
    have okB0 : Ok M Sh B0 := ok.sub fun n h => (f0 n).2 (.inr h)
    have okA0 : Ok M Sh A0 := ok.sub fun n h => (f0 n).2 (.inl h)
    have hw : WOk2 M Sh B0 (some (n, ps)) := .inr ⟨n, ps, rfl, mm, .inr (d0 n ((ff n).2 (.inl rfl)))⟩
    have hev : evI d (.of (.var i)) Ep M = .ok (ps, some (n, ps)) M := by
      simp only [evI, evE, e0, Res.bind_ok, ep, walked, mm, lift]
    rw [hev]
    simp only [Res.bind_ok]
    refine (go (some (n, ps)) xs (acc := []) (qs := []) (A := fun _ => False) rI hw ⟨rfl, fun _ h => h⟩ (re0.iff (G := B0) fun n => ⟨fun h => h.elim False.elim id, .inr⟩) (fun _ h => h.elim) okB0 (fun n h => h.elim False.elim id)).bindF (A := A0) ok (fun n h => (f0 n).2 (.inl h)) (fun n h => (f0 n).2 (.inr h)) d0 fun ys E2 qs M2 Sh2 A2 B2 _ _ q2 re2 di2 dA ok2 kp2 kA le2 => ?_
    have r2 : RV M2 Sh2 (.obj .lst vs) p A0 := r0.mono kp2 kA
    obtain ⟨B3, re3, s3⟩ := re2.set (i := i) r2 (fun n h => (dA n h).2)
    rw [set_same e0] at re3
    refine ⟨.loc M2.length, M2 ++ [.lst qs], Sh2, fun n => n = M2.length ∨ A2 n, B3, rfl, ⟨M2.length, qs, A2, rfl, by simp [objOf], trivial, RVs.mono (app_kept ok2.sl) (fun n h => List.getElem?_append_left (ok2.lt n (.inr (.inl h)))) q2, fun h => by have := ok2.lt _ (.inr (.inl h)); omega, fun _ => Iff.rfl⟩, re3.mono (app_kept ok2.sl) (fun n h => List.getElem?_append_left (ok2.lt n ((s3 n h).elim .inl fun h => .inr (.inr h)))), ?_, Stp.new ok2 _ ?_⟩
    · rintro n (rfl | h) h2
      · have := ok2.lt _ ((s3 _ h2).elim .inl fun h => .inr (.inr h)); omega
      · exact (s3 n h2).elim (fun x => (dA n x).1 h) (di2 n h)
    · rintro n ((h | h) | h)
      · exact .inr h
      · exact .inl (.inr (.inl h))
      · exact .inl ((s3 n h).elim .inl fun h => .inr (.inr h))
end parts
end Wn
end
section
/-! Vs9: all expressions. -/
namespace Wn
open PySem
theorem Res.bind_assoc' {α β γ : Type} (r : Res α) (f : α → Store → Res β) (g : β → Store → Res γ) : (r.bind f).bind g = r.bind fun a M => (f a M).bind g := by cases r <;> rfl
variable {c : VC} {d : Ctx}
mutual
theorem sV (L : Lnk c d) : ∀ (e : Ex) {E : VE} {M : Store} {Sh : FP} {Ep : Env} {F : FP}, RE M Sh E Ep F → Ok M Sh F → Out QV (vE c e E) (evE d e Ep M) Ep M Sh F
  | .var i, _, _, _, _, _, re, ok => by
    simp only [vE]
    exact place_ok L re ok (by rfl)
  | .mov e, E, M, Sh, Ep, F, re, ok => by
    simp only [vE, evE]
    split
    · rename_i i js hp
      exact placeT_ok L re ok hp
    · trivial
  | .int i, _, _, _, _, _, re, ok => Out.im re ok (fun _ h => h) rfl
  | .str i, _, _, _, _, _, re, ok => Out.im re ok (fun _ h => h) rfl
  | .bl i, _, _, _, _, _, re, ok => Out.im re ok (fun _ h => h) rfl
  | .non, _, _, _, _, _, re, ok => Out.im re ok (fun _ h => h) rfl
  | .glo x, E, M, Sh, Ep, F, re, ok => by
    simp only [vE, evE]
    refine Out.liftV fun v hv => ?_
    cases hg : c.glo x with
    | none => rw [hg] at hv; cases hv
    | some y =>
      rw [hg] at hv; cases hv
      obtain ⟨p, e, q⟩ := L.glo x y hg
      rw [e]; exact Out.im re ok (fun _ h => h) (q M Sh)
  | .bin op a b, E, M, Sh, Ep, F, re, ok => by
    simp only [vE, evE]
    refine sv_bin L (sV L a) (sV L b) re ok fun x y E2 p q M2 Sh2 A1 A2 B2 F2 r1 r2 re2 ok2 d1 d2 d12 hF => ?_
    refine Out.liftV fun v hv => ?_
    obtain ⟨u, w, hu, hw, ho⟩ := op2_inv hv
    obtain ⟨z, M', e, n⟩ := (r1.rf hu).bin ok2.sl (r2.rf hw) ho
    rw [e]; exact Out.new re2 ok2 (fun n h => (hF n).1 (.inr (.inr h))) n
  | .neg a, E, M, Sh, Ep, F, re, ok => by
    simp only [vE, evE]
    refine (sV L a re ok).bind ok fun x E1 p M1 Sh1 A1 B1 _ _ q1 re1 di1 ok1 kp1 le1 => ?_
    split
    · obtain ⟨r1, _⟩ := q1
      rw [show p = _ from r1]
      exact Out.im re1 ok1 (fun _ h => .inr h) rfl
    · trivial
  | .cmp op a b, E, M, Sh, Ep, F, re, ok => by
    simp only [vE, evE]
    refine sv_cmp L (sV L a) (sV L b) re ok fun x y E2 p q M2 Sh2 B2 F2 r1 r2 re2 ok2 hF => ?_
    refine Out.liftT fun t ht => ?_
    obtain ⟨u, w, hu, hw, ho⟩ := op2_inv ht
    rw [(r1 u hu).cmp (r2 w hw) ho]
    exact Out.im re2 ok2 hF rfl
  | .chain o p a b e, E, M, Sh, Ep, F, re, ok => by
    simp only [vE, evE]
    refine sv_bin L (sV L a) (sV L b) re ok fun x y E2 px py M2 Sh2 A1 A2 B2 F2 r1 r2 re2 ok2 d1 d2 d12 hF => ?_
    cases ho : op2 (iCmp o) x y with
    | none => trivial
    | some t =>
      obtain ⟨u, w, hu, hw, h1⟩ := op2_inv ho
      rw [(r1.rf hu).cmp (r2.rf hw) h1]
      simp only [liftV, R.bind, lift, Res.bind_ok]
      cases t with
      | false => exact Out.im re2 ok2 (fun n h => (hF n).1 (.inr (.inr h))) rfl
      | true =>
        simp only [if_true]
        refine (sV L e re2 (ok2.sub fun n h => (hF n).1 (.inr (.inr h)))).bindF (A := A2) ok2 (fun n h => (hF n).1 (.inr (.inl h))) (fun n h => (hF n).1 (.inr (.inr h))) d2 fun z E3 pz M3 Sh3 A3 B3 _ e3 q3 re3 di3 dA ok3 kp3 kA le3 => ?_
        refine Out.liftT fun t ht => ?_
        obtain ⟨u2, w2, hu2, hw2, h2⟩ := op2_inv ht
        rw [((r2.mono kp3 kA).rf hu2).cmp (RV.rf q3 hw2) h2]
        exact Out.im re3 ok3 (fun _ h => .inr (.inr h)) rfl
  | .and_ a b, E, M, Sh, Ep, F, re, ok => by
    simp only [vE, evE]
    refine (sV L a re ok).bind ok fun x E1 p M1 Sh1 A1 B1 _ _ q1 re1 di1 ok1 kp1 le1 => ?_
    split
    · obtain ⟨r1, _⟩ := q1
      rw [show p = _ from r1]
      exact (sV L b re1 (ok1.sub fun _ h => .inr h)).widen fun _ h => .inr h
    · obtain ⟨r1, _⟩ := q1
      rw [show p = _ from r1]
      exact Out.im re1 ok1 (fun _ h => .inr h) rfl
    · trivial
  | .or_ a b, E, M, Sh, Ep, F, re, ok => by
    simp only [vE, evE]
    refine (sV L a re ok).bind ok fun x E1 p M1 Sh1 A1 B1 _ _ q1 re1 di1 ok1 kp1 le1 => ?_
    split
    · obtain ⟨r1, _⟩ := q1
      rw [show p = _ from r1]
      exact Out.im re1 ok1 (fun _ h => .inr h) rfl
    · obtain ⟨r1, _⟩ := q1
      rw [show p = _ from r1]
      exact (sV L b re1 (ok1.sub fun _ h => .inr h)).widen fun _ h => .inr h
    · trivial
  | .not_ a, E, M, Sh, Ep, F, re, ok => by
    simp only [vE, evE]
    refine (sV L a re ok).bind ok fun x E1 p M1 Sh1 A1 B1 _ _ q1 re1 di1 ok1 kp1 le1 => ?_
    split
    · obtain ⟨r1, _⟩ := q1
      rw [show p = _ from r1]
      exact Out.im re1 ok1 (fun _ h => .inr h) rfl
    · trivial
  | .ite t a b, E, M, Sh, Ep, F, re, ok => by
    simp only [vE, evE]
    refine (sVT L t re ok).bind ok fun k E1 k2 M1 Sh1 A1 B1 _ _ q1 re1 di1 ok1 kp1 le1 => ?_
    obtain ⟨rfl, _⟩ := q1
    cases k with
    | true => exact (sV L a re1 (ok1.sub fun _ h => .inr h)).widen fun _ h => .inr h
    | false => exact (sV L b re1 (ok1.sub fun _ h => .inr h)).widen fun _ h => .inr h
  | .tup es, E, M, Sh, Ep, F, re, ok => by
    simp only [vE, evE]
    refine (sVs L es re ok).bind ok fun vs E1 ps M1 Sh1 A1 B1 _ _ q1 re1 di1 ok1 kp1 le1 => ?_
    have l := RVs.length q1
    split
    · rename_i hb
      rw [if_pos (by rw [l]; exact hb)]
      exact ⟨.tup ps, M1, Sh1, A1, B1, rfl, mkTup_rv q1, re1, di1, Stp.refl ok1⟩
    · trivial
  | .lst es, E, M, Sh, Ep, F, re, ok => by
    simp only [vE, evE]
    refine (sVs L es re ok).bind ok fun vs E1 ps M2 Sh2 A2 B2 _ _ q2 re2 di2 ok2 kp1 le1 => ?_
    have l := RVs.length q2
    split
    · rename_i hb
      rw [if_pos (by rw [l]; exact hb)]
      refine ⟨.loc M2.length, M2 ++ [.lst ps], Sh2, fun n => n = M2.length ∨ A2 n, B2, rfl, ⟨M2.length, ps, A2, rfl, by simp [objOf], trivial, RVs.mono (app_kept ok2.sl) (fun n h => List.getElem?_append_left (ok2.lt n (.inl h))) q2, fun h => by have := ok2.lt _ (.inl h); omega, fun _ => Iff.rfl⟩, re2.mono (app_kept ok2.sl) (fun n h => List.getElem?_append_left (ok2.lt n (.inr h))), ?_, Stp.new ok2 _ ?_⟩
      · rintro n (rfl | h) h2
        · have := ok2.lt _ (.inr h2); omega
        · exact di2 n h h2
      · rintro n ((h | h) | h)
        · exact .inr h
        · exact .inl (.inl h)
        · exact .inl (.inr h)
    · trivial
  | .dic es, E, M, Sh, Ep, F, re, ok => by
    have s := sVs L es re ok
    simp only [vE, evE]
    cases hr : vEs c es E with
    | bad => trivial
    | err => trivial
    | ok vs E1 =>
      rw [hr] at s
      obtain ⟨ps, M2, Sh2, A2, B2, e, q2, re2, di2, st⟩ := s
      rw [e]
      simp only
      split
      · rename_i dd hp
        split
        · rename_i hl
          obtain ⟨kvs, qs, G, e1, e2, rG, ko, sG, l⟩ := vPairs_ok (ks := []) (ws := []) (qs := []) (G := fun _ => False) q2 ⟨rfl, List.nodup_nil, by simp⟩ ⟨rfl, fun _ h => h⟩ (fun _ _ h => h) hp
          have ok2 := st.ok
          rw [e1]
          simp only
          rw [if_pos (by omega)]
          have hG : ∀ n, G n → A2 n := fun n h => (sG n h).elim id False.elim
          refine ⟨.loc M2.length, M2 ++ [.dic (mergeD [] kvs)], Sh2, fun n => n = M2.length ∨ G n, B2, rfl, ?_, re2.mono (app_kept ok2.sl) (fun n h => List.getElem?_append_left (ok2.lt n (.inr h))), ?_, st.seq (Stp.new (Sh := Sh2) (F := fun n => A2 n ∨ B2 n) (G := fun n => (n = M2.length ∨ G n) ∨ B2 n) ok2 (.dic (mergeD [] kvs)) ?_) (fun _ h => h) (G := fun _ => False) (fun _ h => h.elim) (fun _ h => .inr h)⟩
          · refine ⟨M2.length, qs, G, rfl, ?_, ko, RVs.mono (app_kept ok2.sl) (fun n h => List.getElem?_append_left (ok2.lt n (.inl (hG n h)))) rG, fun h => by have := ok2.lt _ (.inl (hG _ h)); omega, fun _ => Iff.rfl⟩
            simp only [objOf, ← e2]
            simp
          · rintro n (rfl | h) h2
            · have := ok2.lt _ (.inr h2); omega
            · exact di2 n (hG n h) h2
          · rintro n ((h | h) | h)
            · exact .inr h
            · exact .inl (.inl (hG n h))
            · exact .inl (.inr h)
        · trivial
      · trivial
  | .idx a b, E, M, Sh, Ep, F, re, ok => by
    have := sv_idx L (sV L a) (sV L b) re ok
    simp only [vE]
    exact this
  | .slice a lo hi, E, M, Sh, Ep, F, re, ok => by
    simp only [vE, evE]
    refine (view_ok L re ok (sV L a re ok)).bind ok fun x E1 p M1 Sh1 A1 B1 _ _ q1 re1 di1 ok1 kp1 le1 => ?_
    refine (sVO L lo re1 (ok1.sub fun _ h => .inr h)).bindF (A := A1) ok1 (fun _ h => .inl h) (fun _ h => .inr h) di1 fun l E2 l2 M2 Sh2 A2 B2 _ e2 q2 re2 di2 dA ok2 kp2 kA le2 => ?_
    obtain ⟨rfl, em2⟩ := q2
    refine (sVO L hi re2 (ok2.sub fun _ h => .inr (.inr h))).bindF (A := A1) ok2 (fun _ h => .inl h) (fun _ h => .inr (.inr h)) (fun n h => (dA n h).2) fun h E3 h2 M3 Sh3 A3 B3 _ e3 q3 re3 di3 dA3 ok3 kp3 kA3 le3 => ?_
    obtain ⟨rfl, em3⟩ := q3
    refine Out.liftV fun v hv => ?_
    obtain ⟨u, hu, ho⟩ := op1_inv hv
    have r3 := q1 M3 Sh3 (fun n s => ⟨(kp3 n (kp2 n s).1).1, (kp3 n (kp2 n s).1).2.trans (kp2 n s).2⟩) (fun n h => (kA3 n h).trans (kA n h)) (fun z n hn => by
      simp only [Bool.and_eq_true] at z
      have a1 := stillO_adds z.1 e2
      have a2 := stillO_adds z.2 e3
      exact (a1.trans a2).old n hn) u hu
    obtain ⟨z, M', e, n⟩ := r3.slice ok3.sl ho
    rw [e]; exact Out.new re3 ok3 (fun _ h => .inr (.inr h)) n
  | .rev a, E, M, Sh, Ep, F, re, ok => by
    simp only [vE, evE]
    refine (view_ok L re ok (sV L a re ok)).bind ok fun x E1 p M1 Sh1 A1 B1 _ _ q1 re1 di1 ok1 kp1 le1 => ?_
    refine Out.liftV fun v hv => ?_
    obtain ⟨u, hu, ho⟩ := op1_inv hv
    obtain ⟨z, M', e, n⟩ := (q1.rf hu).rev ok1.sl ho
    have h2 := Out.new re1 ok1 (fun _ h => .inr h) n
    rw [← e] at h2; exact h2
  | .fld a f, E, M, Sh, Ep, F, re, ok => by
    simp only [vE]
    split
    · rename_i i js hp
      exact place_ok L re ok hp
    · simp only [evE]
      have key : ∀ {fs : List Str} {vs : List I} {ps : List PV} {M1 : Store} {Sh1 : FP} {v : I}, RIs M1 Sh1 vs ps → ((fldIx f fs).bind fun j => vs[j]?) = some v → ∃ q, (fs.zip ps).lookup f = some q ∧ RI M1 Sh1 v q := by
        intro fs vs ps M1 Sh1 v rs h
        cases hj : fldIx f fs with
        | none => rw [hj] at h; cases h
        | some j =>
          rw [hj] at h
          obtain ⟨q, e, r⟩ := rs.get (show vs[j]? = some v from h)
          exact ⟨q, by rw [lookupF_zip, hj]; exact e, r⟩
      cases hp : plc c E a with
      | none =>
        simp only [view]
        refine (sV L a re ok).bind ok fun x E1 p M1 Sh1 A1 B1 _ _ q1 re1 di1 ok1 kp1 le1 => ?_
        split
        · obtain ⟨⟨n, ps, e, _, mm, ko, rs⟩, _⟩ := q1
          refine Out.liftV fun v hv => ?_
          cases hf : ((fldIx f _).bind fun j => _) with
          | none => rw [hf] at hv; cases hv
          | some w =>
            rw [hf] at hv; cases hv
            obtain ⟨q, e2, r2⟩ := key rs hf
            simp only [objOf] at mm
            simp only [e, mm, e2, lift]
            exact Out.im re1 ok1 (fun _ h => .inr h) r2
        · obtain ⟨⟨ps, e, _, rs⟩, _⟩ := q1
          refine Out.liftV fun v hv => ?_
          cases hf : ((fldIx f _).bind fun j => _) with
          | none => rw [hf] at hv; cases hv
          | some w =>
            rw [hf] at hv; cases hv
            obtain ⟨q, e2, r2⟩ := key rs hf
            simp only [e, e2, lift]
            exact Out.im re1 ok1 (fun _ h => .inr h) r2
        · rename_i C fs vs hz
          obtain ⟨n, ps, G, e, mm, ko, rs, hn, ff⟩ := q1
          refine Out.liftV fun v hv => ?_
          cases hj : fldIx f fs with
          | none => rw [hj] at hv; cases hv
          | some j =>
            rw [hj] at hv
            obtain ⟨q, A2, B2, e2, r2, d2, f2, _⟩ := rs.at (show vs[j]? = some v from hv)
            simp only [objOf] at mm
            simp only [e, mm, lookupF_zip, hj, Option.bind_some, e2, lift]
            refine ⟨q, M1, Sh1, A2, B1, rfl, r2, re1, fun n h => di1 n ((ff n).2 (.inr ((f2 n).2 (.inl h)))), (Stp.refl ok1).drop fun n h => h.elim (fun h => .inl ((ff n).2 (.inr ((f2 n).2 (.inl h))))) .inr⟩
        · trivial
      | some ij =>
        obtain ⟨i, js⟩ := ij
        -- looked at: what stands still
        have vw := view_ok (st := true) L re ok (sV L a re ok)
        rw [hp] at vw
        refine vw.bind ok fun x E1 p M1 Sh1 A1 B1 hx _ q1 re1 di1 ok1 kp1 le1 => ?_
        split
        · rename_i C fs vs
          obtain ⟨n, ps, e, mm, ko, rs⟩ := q1.rf (x := .ins C fs vs) rfl
          refine Out.liftV fun v hv => ?_
          cases hf : ((fldIx f fs).bind fun j => vs[j]?) with
          | none => rw [hf] at hv; cases hv
          | some w =>
            rw [hf] at hv; cases hv
            obtain ⟨q, e2, r2⟩ := key rs hf
            simp only [objOf] at mm
            simp only [e, mm, e2, lift]
            exact Out.im re1 ok1 (fun _ h => .inr h) r2
        · rename_i C fs vs
          obtain ⟨ps, e, _, rs⟩ := q1.rf (x := .exc C fs vs) rfl
          refine Out.liftV fun v hv => ?_
          cases hf : ((fldIx f fs).bind fun j => vs[j]?) with
          | none => rw [hf] at hv; cases hv
          | some w =>
            rw [hf] at hv; cases hv
            obtain ⟨q, e2, r2⟩ := key rs hf
            simp only [e, e2, lift]
            exact Out.im re1 ok1 (fun _ h => .inr h) r2
        · -- an owned one at a place: the field's place would have been found
          rename_i C fs vs
          refine Out.liftV fun v hv => ?_
          exfalso
          simp only [view] at hx
          have hpk : peekE E i js = some (.ins C fs vs) := by
            revert hx
            split
            · intro hx; cases hx
            · intro hx; cases hx
            · intro hx
              simp only [if_true] at hx
              cases hx; assumption
            · intro hx; cases hx
          cases hj : fldIx f fs with
          | none => rw [hj] at hv; cases hv
          | some j =>
            have : plc c E (.fld a f) = some (i, js ++ [j]) := by simp only [plc, hp, hpk, hj, Option.map_some]
            simp_all
        · trivial
  | .call f es, E, M, Sh, Ep, F, re, ok => by
    simp only [vE, evE]
    exact sv_call L ok (sVA L es re ok)
  | .mk C es, E, M, Sh, Ep, F, re, ok => by
    simp only [vE, evE]
    refine (sVA L es re ok).bind ok fun as E1 ps M1 Sh1 A1 B1 _ _ q1 re1 di1 ok1 kp1 le1 => ?_
    exact doCall_ok (L.make C) q1 re1 di1 ok1 fun _ h => h
  | .meth o m es, E, M, Sh, Ep, F, re, ok => by
    have := sv_meth L (m := m) (sV L o) (fun re ok => sVA L es re ok) re ok
    simp only [vE]
    exact this
  | .bi f es, E, M, Sh, Ep, F, re, ok => by
    simp only [vE, evE]
    exact sv_bi L ok (sVB L es re ok)
  | .bm m o es, E, M, Sh, Ep, F, re, ok => by
    simp only [vE]
    split
    · rename_i i js hp
      split
      · rename_i o0 hk
        split
        · rename_i hc
          simp only [Bool.and_eq_true, Bool.or_eq_true] at hc
          have hg0 : o0 ≠ .gone := by rintro rfl; simp [vBmOk] at hc
          obtain ⟨p, q, e1, e2, e3⟩ := plc_ok L re o hp hk hg0
          obtain ⟨p', q', A0, B0, e1', e2', r0, _⟩ := re.peek hk hg0
          rw [e1] at e1'; cases e1'
          rw [e2] at e2'; cases e2'
          simp only [evE, e3, Res.bind_ok]
          rw [if_pos (vBmOk_ok r0 hc.1)]
          refine (sVs L es re ok).bind ok fun vs E1 ps M2 Sh2 A2 B2 _ ee q2 re2 di2 ok2 kp2 le2 => ?_
          split
          · rename_i o1 hk1
            split
            · rename_i o2 r hb
              have hg1 : o1 ≠ .gone := by rintro rfl; simp [vBm] at hb; split at hb <;> simp_all [V.flat]
              obtain ⟨p1, q1, A1, B1, e4, e5, r1, d1, f1, k1⟩ := re2.peek hk1 hg1
              rw [e1] at e4; cases e4
              have hq : q1 = q := by
                rcases hc.2 with hj | hst
                · have : js = [] := by simpa using hj
                  subst this
                  cases e5; cases e2; rfl
                · have := atP_mono (stills_adds es hst ee).old e2
                  rw [this] at e5; cases e5; rfl
              subst hq
              have okAD : Ok M2 Sh2 (fun n => A1 n ∨ A2 n) := ok2.sub fun n h => h.elim (fun h => .inr ((f1 n).2 (.inl h))) .inl
              obtain ⟨pr, M3, A3, R3, e6, r3, rr, d3, s3, hM⟩ := vBm_ok r1 q2 (fun n x y => di2 n y ((f1 n).2 (.inl x))) okAD hb
              rw [e6]
              have hB1 : ∀ n, B1 n → B2 n := fun n h => (f1 n).2 (.inr h)
              have hkp : (∀ n, Sh2 n → Sh2 n ∧ M3[n]? = M2[n]?) ∧ (∀ n, B1 n → M3[n]? = M2[n]?) := by
                rcases hM with rfl | ⟨n0, ob, hn0, rfl⟩
                · exact ⟨fun n h => ⟨h, rfl⟩, fun _ _ => rfl⟩
                · have hs0 := ok2.ns n0 (.inr ((f1 n0).2 (.inl hn0)))
                  refine ⟨fun n h => ⟨h, ?_⟩, fun n h => ?_⟩
                  · rw [List.getElem?_set_ne]; rintro rfl; exact hs0 h
                  · rw [List.getElem?_set_ne]; rintro rfl; exact d1 _ hn0 h
              have dis : ∀ n, (A3 n ∨ R3 n) → ¬ B1 n := fun n h hb => (s3 n h).elim (fun h => d1 n h hb) fun h => di2 n h (hB1 n hb)
              have re3 := k1 M3 Sh2 o2 A3 hkp.1 hkp.2 r3 (fun n h => dis n (.inl h))
              refine ⟨pr, M3, Sh2, R3, _, rfl, rr, re3, fun n h h2 => h2.elim (fun h2 => d3 n h2 h) (dis n (.inr h)), ?_⟩
              have hall : ∀ n, (R3 n ∨ A3 n ∨ B1 n) → A2 n ∨ B2 n := fun n h => h.elim (fun h => (s3 n (.inr h)).elim (fun h => .inr ((f1 n).2 (.inl h))) .inl) fun h => h.elim (fun h => (s3 n (.inl h)).elim (fun h => .inr ((f1 n).2 (.inl h))) .inl) fun h => .inr (hB1 n h)
              rcases hM with rfl | ⟨n0, ob, hn0, rfl⟩
              · exact (Stp.refl ok2).drop hall
              · exact Stp.put ok2 (.inr ((f1 n0).2 (.inl hn0))) ob hall
            · trivial
          · trivial
        · trivial
      · trivial
    · simp only [evE]
      refine (sV L o re ok).bind ok fun o1 E1 q M1 Sh1 A1 B1 _ _ q1 re1 di1 ok1 kp1 le1 => ?_
      split
      · rename_i hc
        rw [if_pos (vBmOk_ok q1 hc)]
        refine (sVs L es re1 (ok1.sub fun _ h => .inr h)).bindF (A := A1) ok1 (fun _ h => .inl h) (fun _ h => .inr h) di1 fun vs E2 ps M2 Sh2 A2 B2 _ e2 q2 re2 di2 dA ok2 kp2 kA le2 => ?_
        split
        · rename_i o2 r hb
          have okAD : Ok M2 Sh2 (fun n => A1 n ∨ A2 n) := ok2.sub fun n h => h.elim .inl fun h => .inr (.inl h)
          obtain ⟨pr, M3, A3, R3, e6, r3, rr, d3, s3, hM⟩ := vBm_ok (RV.mono kp2 kA q1) q2 (fun n x => (dA n x).1) okAD hb
          rw [e6]
          have hkp : (∀ n, Sh2 n → Sh2 n ∧ M3[n]? = M2[n]?) ∧ (∀ n, B2 n → M3[n]? = M2[n]?) := by
            rcases hM with rfl | ⟨n0, ob, hn0, rfl⟩
            · exact ⟨fun n h => ⟨h, rfl⟩, fun _ _ => rfl⟩
            · have hs0 := ok2.ns n0 (.inl hn0)
              refine ⟨fun n h => ⟨h, ?_⟩, fun n h => ?_⟩
              · rw [List.getElem?_set_ne]; rintro rfl; exact hs0 h
              · rw [List.getElem?_set_ne]; rintro rfl; exact (dA _ hn0).2 h
          have dis : ∀ n, (A3 n ∨ R3 n) → ¬ B2 n := fun n h hb => (s3 n h).elim (fun h => (dA n h).2 hb) fun h => di2 n h hb
          refine ⟨pr, M3, Sh2, R3, B2, rfl, rr, re2.mono hkp.1 hkp.2, fun n h => dis n (.inr h), ?_⟩
          have hall : ∀ n, (R3 n ∨ B2 n) → A1 n ∨ A2 n ∨ B2 n := fun n h => h.elim (fun h => (s3 n (.inr h)).elim .inl fun h => .inr (.inl h)) fun h => .inr (.inr h)
          rcases hM with rfl | ⟨n0, ob, hn0, rfl⟩
          · exact (Stp.refl ok2).drop hall
          · exact Stp.put ok2 (.inl hn0) ob hall
        · trivial
      · trivial
  | .isi a t, E, M, Sh, Ep, F, re, ok => by
    simp only [vE, evE]
    refine (view_ok L re ok (sV L a re ok)).bind ok fun x E1 p M1 Sh1 A1 B1 _ _ q1 re1 di1 ok1 kp1 le1 => ?_
    refine Out.liftT fun b hb => ?_
    obtain ⟨u, hu, ho⟩ := op1_inv hb
    rw [L.sub] at ho
    rw [(q1.rf hu).ty ho]
    exact Out.im re1 ok1 (fun _ h => .inr h) rfl
  | .lc elt g it cond, E, M, Sh, Ep, F, re, ok => sv_lc L (sV L elt) (fun re ok => sVC L cond re ok) re ok (sVI L it re ok)
theorem sVT (L : Lnk c d) : ∀ (e : Ex) {E : VE} {M : Store} {Sh : FP} {Ep : Env} {F : FP}, RE M Sh E Ep F → Ok M Sh F → Out QE (vT c e E) (evT d e Ep M) Ep M Sh F
  | .and_ a b, E, M, Sh, Ep, F, re, ok => by
    simp only [vT, evT]
    refine (sVT L a re ok).bind ok fun k E1 k2 M1 Sh1 A1 B1 _ _ q1 re1 di1 ok1 kp1 le1 => ?_
    obtain ⟨rfl, _⟩ := q1
    cases k with
    | true => exact (sVT L b re1 (ok1.sub fun _ h => .inr h)).widen fun _ h => .inr h
    | false => exact Out.val re1 ok1 fun _ h => .inr h
  | .or_ a b, E, M, Sh, Ep, F, re, ok => by
    simp only [vT, evT]
    refine (sVT L a re ok).bind ok fun k E1 k2 M1 Sh1 A1 B1 _ _ q1 re1 di1 ok1 kp1 le1 => ?_
    obtain ⟨rfl, _⟩ := q1
    cases k with
    | false => exact (sVT L b re1 (ok1.sub fun _ h => .inr h)).widen fun _ h => .inr h
    | true => exact Out.val re1 ok1 fun _ h => .inr h
  | .not_ a, E, M, Sh, Ep, F, re, ok => by
    simp only [vT, evT]
    refine (sVT L a re ok).bind ok fun k E1 k2 M1 Sh1 A1 B1 _ _ q1 re1 di1 ok1 kp1 le1 => ?_
    obtain ⟨rfl, _⟩ := q1
    exact Out.val re1 ok1 fun _ h => .inr h
  | .var i, E, M, Sh, Ep, F, re, ok => by
    have vw := view_ok (e := .var i) (st := true) (k := .bad) L re ok trivial
    simp only [vT]
    have e : evT d (.var i) Ep M = (evE d (.var i) Ep M).bind fun x M2 => lift M2 (truth M2 x) := by
      simp only [evT, evE]; split <;> rfl
    rw [e]
    refine Out.bind (Q := QW true) vw ok fun x E1 p M1 Sh1 A1 B1 _ _ q1 re1 di1 ok1 kp1 le1 => ?_
    refine Out.liftV fun b hb => ?_
    obtain ⟨a, ha, ht⟩ := op1_inv hb
    rw [(q1.rf ha).truth ht]
    exact Out.val re1 ok1 fun _ h => .inr h
  | .cmp op a b, E, M, Sh, Ep, F, re, ok => by
    simp only [vT, evT]
    refine sv_cmp L (sV L a) (sV L b) re ok fun x y E2 p q M2 Sh2 B2 F2 r1 r2 re2 ok2 hF => ?_
    refine Out.liftV fun t ht => ?_
    obtain ⟨u, w, hu, hw, ho⟩ := op2_inv ht
    rw [(r1 u hu).cmp (r2 w hw) ho]
    exact Out.val re2 ok2 hF
  | .chain o p a b e, E, M, Sh, Ep, F, re, ok => by
    simp only [vT, evT]
    refine sv_bin L (sV L a) (sV L b) re ok fun x y E2 px py M2 Sh2 A1 A2 B2 F2 r1 r2 re2 ok2 d1 d2 d12 hF => ?_
    cases ho : op2 (iCmp o) x y with
    | none => trivial
    | some t =>
      obtain ⟨u, w, hu, hw, h1⟩ := op2_inv ho
      rw [(r1.rf hu).cmp (r2.rf hw) h1]
      simp only [liftV, R.bind, lift, Res.bind_ok]
      cases t with
      | false => exact Out.val re2 ok2 (fun n h => (hF n).1 (.inr (.inr h)))
      | true =>
        simp only [if_true]
        refine (sV L e re2 (ok2.sub fun n h => (hF n).1 (.inr (.inr h)))).bindF (A := A2) ok2 (fun n h => (hF n).1 (.inr (.inl h))) (fun n h => (hF n).1 (.inr (.inr h))) d2 fun z E3 pz M3 Sh3 A3 B3 _ e3 q3 re3 di3 dA ok3 kp3 kA le3 => ?_
        refine Out.liftV fun t ht => ?_
        obtain ⟨u2, w2, hu2, hw2, h2⟩ := op2_inv ht
        rw [((r2.mono kp3 kA).rf hu2).cmp (RV.rf q3 hw2) h2]
        exact Out.val re3 ok3 (fun _ h => .inr (.inr h))
  | .call f es, E, M, Sh, Ep, F, re, ok => by
    have := sv_truth L ok (sv_call L (f := f) ok (sVA L es re ok))
    simp only [vT, evT]
    rw [Res.bind_assoc'] at this
    exact this
  | .isi a t, E, M, Sh, Ep, F, re, ok => by
    simp only [vT, evT]
    refine (view_ok L re ok (sV L a re ok)).bind ok fun x E1 p M1 Sh1 A1 B1 _ _ q1 re1 di1 ok1 kp1 le1 => ?_
    refine Out.liftV fun b hb => ?_
    obtain ⟨u, hu, ho⟩ := op1_inv hb
    rw [L.sub] at ho
    rw [(q1.rf hu).ty ho]
    exact Out.val re1 ok1 (fun _ h => .inr h)
  | .bi f es, E, M, Sh, Ep, F, re, ok => by
    have := sv_truth L ok (sv_bi L (f := f) ok (sVB L es re ok))
    simp only [vT, evT]
    rw [Res.bind_assoc'] at this
    exact this
  | .idx a b, E, M, Sh, Ep, F, re, ok => by
    have := sv_truth L ok (sv_idx L (sV L a) (sV L b) re ok)
    simp only [vT, evT]
    simp only [evE, Res.bind_assoc'] at this
    exact this
  | .meth o m es, E, M, Sh, Ep, F, re, ok => by
    have := sv_truth L ok (sv_meth L (m := m) (sV L o) (fun re ok => sVA L es re ok) re ok)
    simp only [vT]
    have e : evT d (.meth o m es) Ep M = (evE d (.meth o m es) Ep M).bind fun x M2 => lift M2 (truth M2 x) := by
      simp only [evT, evE, Res.bind_assoc']
      congr 1; funext x M1
      split
      · split
        · split
          · rw [Res.bind_assoc']
          · rfl
        · rfl
      · rfl
    rw [e]
    exact this
  | .int _, _, _, _, _, _, _, _ => trivial
  | .str _, _, _, _, _, _, _, _ => trivial
  | .bl _, _, _, _, _, _, _, _ => trivial
  | .non, _, _, _, _, _, _, _ => trivial
  | .glo _, _, _, _, _, _, _, _ => trivial
  | .bin _ _ _, _, _, _, _, _, _, _ => trivial
  | .neg _, _, _, _, _, _, _, _ => trivial
  | .ite _ _ _, _, _, _, _, _, _, _ => trivial
  | .tup _, _, _, _, _, _, _, _ => trivial
  | .lst _, _, _, _, _, _, _, _ => trivial
  | .dic _, _, _, _, _, _, _, _ => trivial
  | .slice _ _ _, _, _, _, _, _, _, _ => trivial
  | .rev _, _, _, _, _, _, _, _ => trivial
  | .fld _ _, _, _, _, _, _, _, _ => trivial
  | .mk _ _, _, _, _, _, _, _, _ => trivial
  | .bm _ _ _, _, _, _, _, _, _, _ => trivial
  | .lc _ _ _ _, _, _, _, _, _, _, _ => trivial
  | .mov _, _, _, _, _, _, _, _ => trivial
theorem sVs (L : Lnk c d) : ∀ (es : Exs) {E : VE} {M : Store} {Sh : FP} {Ep : Env} {F : FP}, RE M Sh E Ep F → Ok M Sh F → Out QVs (vEs c es E) (evEs d es Ep M) Ep M Sh F
  | .nil, E, M, Sh, Ep, F, re, ok => ⟨[], M, Sh, fun _ => False, F, rfl, ⟨rfl, fun _ h => h⟩, re, fun _ h => h.elim, (Stp.refl ok).drop fun n h => h.elim False.elim id⟩
  | .cons e es, E, M, Sh, Ep, F, re, ok => by
    simp only [vEs, evEs]
    refine (sV L e re ok).bind ok fun x E1 p M1 Sh1 A1 B1 _ _ q1 re1 di1 ok1 kp1 le1 => ?_
    refine (sVs L es re1 (ok1.sub fun _ h => .inr h)).bindF (A := A1) ok1 (fun _ h => .inl h) (fun _ h => .inr h) di1 fun xs E2 ps M2 Sh2 A2 B2 _ e2 q2 re2 di2 dA ok2 kp2 kA le2 => ?_
    exact ⟨p :: ps, M2, Sh2, fun n => A1 n ∨ A2 n, B2, rfl, ⟨p, ps, A1, A2, rfl, RV.mono kp2 kA q1, q2, fun n h => (dA n h).1, fun _ => Iff.rfl⟩, re2, fun n h => h.elim (fun h => (dA n h).2) (di2 n), (Stp.refl ok2).drop fun n h => h.elim (fun h => h.elim .inl fun h => .inr (.inl h)) fun h => .inr (.inr h)⟩
theorem sVB (L : Lnk c d) : ∀ (es : Exs) {E : VE} {M : Store} {Sh : FP} {Ep : Env} {F : FP}, RE M Sh E Ep F → Ok M Sh F → Out QB (vB c es E) (evEs d es Ep M) Ep M Sh F
  | .nil, E, M, Sh, Ep, F, re, ok => ⟨[], M, Sh, fun _ => False, F, rfl, rfl, re, fun _ h => h.elim, (Stp.refl ok).drop fun n h => h.elim False.elim id⟩
  | .cons e .nil, E, M, Sh, Ep, F, re, ok => by
    simp only [vB, evEs]
    refine (view_ok L re ok (sV L e re ok)).bind ok fun x E1 p M1 Sh1 A1 B1 _ _ q1 re1 di1 ok1 kp1 le1 => ?_
    exact ⟨[p], M1, Sh1, A1, B1, rfl, ⟨p, rfl, q1⟩, re1, di1, Stp.refl ok1⟩
  | .cons e (.cons e2 es), E, M, Sh, Ep, F, re, ok => by
    have e0 : evEs d (.cons e (.cons e2 es)) Ep M = (evE d e Ep M).bind fun x M1 => (evEs d (.cons e2 es) Ep M1).bind fun xs M2 => .ok (x :: xs) M2 := rfl
    have v0 : vB c (.cons e (.cons e2 es)) E = (vE c e E).bind fun x E1 => (vB c (.cons e2 es) E1).bind fun xs E2 => .ok (x :: xs) E2 := by simp only [vB]
    rw [e0, v0]
    refine (sV L e re ok).bind ok fun x E1 p M1 Sh1 A1 B1 _ _ q1 re1 di1 ok1 kp1 le1 => ?_
    refine (sVB L (.cons e2 es) re1 (ok1.sub fun _ h => .inr h)).bindF (A := A1) ok1 (fun _ h => .inl h) (fun _ h => .inr h) di1 fun xs E2 ps M2 Sh2 A2 B2 hv _ q2 re2 di2 dA ok2 kp2 kA le2 => ?_
    have hne : ∃ y ys, xs = y :: ys := by
      cases es with
      | nil =>
        simp only [vB] at hv
        cases hr : view (plc c E1 e2) true E1 (vE c e2 E1) with
        | ok a Ea => rw [hr] at hv; cases hv; exact ⟨_, _, rfl⟩
        | err => rw [hr] at hv; cases hv
        | bad => rw [hr] at hv; cases hv
      | cons e3 es =>
        simp only [vB] at hv
        cases hr : vE c e2 E1 with
        | ok a Ea =>
          rw [hr] at hv
          simp only [R.bind] at hv
          split at hv
          · cases hv; exact ⟨_, _, rfl⟩
          · cases hv
          · cases hv
        | err => rw [hr] at hv; cases hv
        | bad => rw [hr] at hv; cases hv
    obtain ⟨y, ys, rfl⟩ := hne
    exact ⟨p :: ps, M2, Sh2, fun n => A1 n ∨ A2 n, B2, rfl, ⟨p, ps, A1, A2, rfl, RV.mono kp2 kA q1, q2, fun n h => (dA n h).1, fun _ => Iff.rfl⟩, re2, fun n h => h.elim (fun h => (dA n h).2) (di2 n), (Stp.refl ok2).drop fun n h => h.elim (fun h => h.elim .inl fun h => .inr (.inl h)) fun h => .inr (.inr h)⟩
theorem sVA (L : Lnk c d) : ∀ (es : Exs) {io : List Bool} {E : VE} {M : Store} {Sh : FP} {Ep : Env} {F : FP}, RE M Sh E Ep F → Ok M Sh F → Out QA (vAs c io es E) (evEs d es Ep M) Ep M Sh F
  | .nil, io, E, M, Sh, Ep, F, re, ok => ⟨[], M, Sh, fun _ => False, F, rfl, ⟨rfl, fun _ h => h⟩, re, fun _ h => h.elim, (Stp.refl ok).drop fun n h => h.elim False.elim id⟩
  | .cons e es, io, E, M, Sh, Ep, F, re, ok => by
    simp only [vAs, evEs]
    split
    · rename_i i hi hio
      have he : e = .var i := by cases e <;> simp [isVar] at hi; rw [hi]
      subst he
      split
      · trivial
      · rename_i hg
        have : ∃ p, Ep[i]? = some (some p) := by
          simp only [isGone] at hg
          split at hg
          · simp at hg
          · simp at hg
          · rename_i h1 h2
            cases hv : E[i]? with
            | none => exact absurd hv h2
            | some v => exact re.var hv (fun z => h1 (by rw [hv, z]))
        obtain ⟨p, e1⟩ := this
        simp only [evE, e1, Res.bind_ok]
        refine (sVA L es re ok).bind ok fun as E1 ps M1 Sh1 A1 B1 _ _ q1 re1 di1 ok1 kp1 le1 => ?_
        exact ⟨p :: ps, M1, Sh1, A1, B1, rfl, ⟨p, ps, rfl, e1, q1⟩, re1, di1, Stp.refl ok1⟩
    · refine (sV L e re ok).bind ok fun x E1 p M1 Sh1 A1 B1 _ _ q1 re1 di1 ok1 kp1 le1 => ?_
      refine (sVA L es re1 (ok1.sub fun _ h => .inr h)).bindF (A := A1) ok1 (fun _ h => .inl h) (fun _ h => .inr h) di1 fun xs E2 ps M2 Sh2 A2 B2 _ e2 q2 re2 di2 dA ok2 kp2 kA le2 => ?_
      exact ⟨p :: ps, M2, Sh2, fun n => A1 n ∨ A2 n, B2, rfl, ⟨p, ps, A1, A2, rfl, RV.mono kp2 kA q1, q2, fun n h => (dA n h).1, fun _ => Iff.rfl⟩, re2, fun n h => h.elim (fun h => (dA n h).2) (di2 n), (Stp.refl ok2).drop fun n h => h.elim (fun h => h.elim .inl fun h => .inr (.inl h)) fun h => .inr (.inr h)⟩
    · have fz : Out QV ((vE c e E).bind fun x E1 => liftV E1 (x.freeze.map .im)) (evE d e Ep M) Ep M Sh F := by
        have h := sV L e re ok
        cases hr : vE c e E with
        | bad => trivial
        | err C fs vs E1 => rw [hr] at h; exact h
        | ok x E1 =>
          rw [hr] at h
          obtain ⟨p, M1, Sh1, A1, B1, e1, q1, re1, di1, s1⟩ := h
          simp only [R.bind]
          cases hf : x.freeze with
          | none => trivial
          | some y =>
            have r := RV.freeze q1 hf
            have sf : Stp M1 Sh1 (fun n => A1 n ∨ B1 n) M1 (fun n => Sh1 n ∨ A1 n) (fun n => False ∨ B1 n) := Stp.frz s1.ok (fun _ h => .inl h) (fun n h => h.elim False.elim fun h => ⟨.inr h, fun a => di1 n a h⟩)
            exact ⟨p, M1, _, fun _ => False, B1, e1, ⟨r, fun _ h => h⟩, re1.mono (fun n h => ⟨.inl h, rfl⟩) (fun _ _ => rfl), fun _ h => h.elim, s1.seq sf (fun _ h => h) (G := fun _ => False) (fun _ h => h.elim) (fun _ h => .inr h)⟩
      refine fz.bind ok fun x E1 p M1 Sh1 A1 B1 _ _ q1 re1 di1 ok1 kp1 le1 => ?_
      refine (sVA L es re1 (ok1.sub fun _ h => .inr h)).bindF (A := A1) ok1 (fun _ h => .inl h) (fun _ h => .inr h) di1 fun xs E2 ps M2 Sh2 A2 B2 _ e2 q2 re2 di2 dA ok2 kp2 kA le2 => ?_
      exact ⟨p :: ps, M2, Sh2, fun n => A1 n ∨ A2 n, B2, rfl, ⟨p, ps, A1, A2, rfl, RV.mono kp2 kA q1, q2, fun n h => (dA n h).1, fun _ => Iff.rfl⟩, re2, fun n h => h.elim (fun h => (dA n h).2) (di2 n), (Stp.refl ok2).drop fun n h => h.elim (fun h => h.elim .inl fun h => .inr (.inl h)) fun h => .inr (.inr h)⟩
theorem sVO (L : Lnk c d) : ∀ (o : Ox) {E : VE} {M : Store} {Sh : FP} {Ep : Env} {F : FP}, RE M Sh E Ep F → Ok M Sh F → Out QE (vO c o E) (evO d o Ep M) Ep M Sh F
  | .none, E, M, Sh, Ep, F, re, ok => Out.val re ok fun _ h => h
  | .some e, E, M, Sh, Ep, F, re, ok => by
    simp only [vO, evO]
    refine (sV L e re ok).bind ok fun x E1 p M1 Sh1 A1 B1 _ _ q1 re1 di1 ok1 kp1 le1 => ?_
    split
    · obtain ⟨r1, _⟩ := q1
      rw [show p = _ from r1]
      exact Out.val re1 ok1 fun _ h => .inr h
    · trivial
theorem sVC (L : Lnk c d) : ∀ (o : Ox) {E : VE} {M : Store} {Sh : FP} {Ep : Env} {F : FP}, RE M Sh E Ep F → Ok M Sh F → Out QE (vC c o E) (evC d o Ep M) Ep M Sh F
  | .none, E, M, Sh, Ep, F, re, ok => Out.val re ok fun _ h => h
  | .some e, E, M, Sh, Ep, F, re, ok => by
    simp only [vC, evC]
    exact sVT L e re ok
theorem sVI (L : Lnk c d) : ∀ (it : Ix) {E : VE} {M : Store} {Sh : FP} {Ep : Env} {F : FP}, RE M Sh E Ep F → Ok M Sh F → Out QI (vI c it E) (evI d it Ep M) Ep M Sh F
  | .of e, E, M, Sh, Ep, F, re, ok => by
    simp only [vI, evI]
    refine (sV L e re ok).bind ok fun x E1 p M1 Sh1 A1 B1 _ _ q1 re1 di1 ok1 kp1 le1 => ?_
    refine Out.liftV fun xs hx => ?_
    cases hf : x.freeze with
    | none => rw [hf] at hx; cases hx
    | some y =>
      rw [hf] at hx
      simp only [Option.bind_some] at hx
      have r := RV.freeze q1 hf
      have sf : Stp M1 Sh1 (fun n => A1 n ∨ B1 n) M1 (fun n => Sh1 n ∨ A1 n) (fun n => False ∨ B1 n) := Stp.frz ok1 (fun _ h => .inl h) (fun n h => h.elim False.elim fun h => ⟨.inr h, fun a => di1 n a h⟩)
      have re2 : RE M1 (fun n => Sh1 n ∨ A1 n) E1 Ep B1 := re1.mono (fun n h => ⟨.inl h, rfl⟩) (fun _ _ => rfl)
      cases y with
      | tup ys =>
        cases hx
        obtain ⟨ps, e, rs⟩ := r
        rw [e]
        exact ⟨(ps, none), M1, _, fun _ => False, B1, rfl, ⟨rs, .inl rfl, fun _ h => h⟩, re2, fun _ h => h.elim, sf⟩
      | lst ys =>
        cases hx
        obtain ⟨n, ps, e, hn, mm, rs⟩ := r
        simp only [objOf] at mm
        rw [e]
        simp only [walked, mm, lift]
        exact ⟨(ps, some (n, ps)), M1, _, fun _ => False, B1, rfl, ⟨rs, .inr ⟨n, ps, rfl, hn, mm⟩, fun _ h => h⟩, re2, fun _ h => h.elim, sf⟩
      | str z =>
        cases hx
        rw [show p = _ from r]
        exact ⟨(signs z, none), M1, _, fun _ => False, B1, rfl, ⟨RIs.of_map _ _ (by intro k; simp only [RI]) _, .inl rfl, fun _ h => h⟩, re2, fun _ h => h.elim, sf⟩
      | _ => cases hx
  | .rng1 a, E, M, Sh, Ep, F, re, ok => by
    simp only [vI, evI]
    refine (sV L a re ok).bind ok fun x E1 p M1 Sh1 A1 B1 _ _ q1 re1 di1 ok1 kp1 le1 => ?_
    split
    · obtain ⟨r1, _⟩ := q1
      rw [show p = _ from r1]
      simp only
      split
      · exact ⟨(rangeOf 0 _, none), M1, Sh1, fun _ => False, B1, rfl, ⟨RIs.of_map _ _ (by intro k; simp only [RI]) _, .inl rfl, fun _ h => h⟩, re1, fun _ h => h.elim, (Stp.refl ok1).drop fun n h => h.elim False.elim .inr⟩
      · trivial
    · trivial
  | .rng2 a b, E, M, Sh, Ep, F, re, ok => by
    simp only [vI, evI]
    refine sv_bin L (sV L a) (sV L b) re ok fun x y E2 px py M2 Sh2 A1 A2 B2 F2 r1 r2 re2 ok2 d1 d2 d12 hF => ?_
    split
    · obtain ⟨r1, _⟩ := r1
      obtain ⟨r2, _⟩ := r2
      rw [show px = _ from r1, show py = _ from r2]
      simp only
      split
      · exact ⟨(rangeOf _ _, none), M2, Sh2, fun _ => False, B2, rfl, ⟨RIs.of_map _ _ (by intro k; simp only [RI]) _, .inl rfl, fun _ h => h⟩, re2, fun _ h => h.elim, (Stp.refl ok2).drop fun n h => h.elim False.elim fun h => (hF n).1 (.inr (.inr h))⟩
      · trivial
    · trivial
  | .rng3 a b e, E, M, Sh, Ep, F, re, ok => by
    simp only [vI, evI]
    refine sv_bin L (sV L a) (sV L b) re ok fun x y E2 px py M2 Sh2 A1 A2 B2 F2 r1 r2 re2 ok2 d1 d2 d12 hF => ?_
    refine (sV L e re2 (ok2.sub fun n h => (hF n).1 (.inr (.inr h)))).bindF (A := fun _ => False) ok2 (fun n h => h.elim) (fun n h => (hF n).1 (.inr (.inr h))) (fun _ h => h.elim) fun z E3 pz M3 Sh3 A3 B3 _ e3 q3 re3 di3 dA ok3 kp3 kA le3 => ?_
    split
    · obtain ⟨r1, _⟩ := r1
      obtain ⟨r2, _⟩ := r2
      obtain ⟨r3, _⟩ := q3
      rw [show px = _ from r1, show py = _ from r2, show pz = _ from r3]
      simp only
      split
      · exact ⟨(rangeC _ _ _, none), M3, Sh3, fun _ => False, B3, rfl, ⟨RIs.of_map _ _ (by intro k; simp only [RI]) _, .inl rfl, fun _ h => h⟩, re3, fun _ h => h.elim, (Stp.refl ok3).drop fun n h => h.elim False.elim fun h => .inr (.inr h)⟩
      · split
        · exact ⟨(rangeC _ (-1) _, none), M3, Sh3, fun _ => False, B3, rfl, ⟨RIs.of_map _ _ (by intro k; simp only [RI]) _, .inl rfl, fun _ h => h⟩, re3, fun _ h => h.elim, (Stp.refl ok3).drop fun n h => h.elim False.elim fun h => .inr (.inr h)⟩
        · trivial
    · trivial
  | .enum e, E, M, Sh, Ep, F, re, ok => by
    simp only [vI, evI]
    refine (sV L e re ok).bind ok fun x E1 p M1 Sh1 A1 B1 _ _ q1 re1 di1 ok1 kp1 le1 => ?_
    refine Out.liftV fun xs hx => ?_
    cases hf : x.freeze with
    | none => rw [hf] at hx; cases hx
    | some y =>
      rw [hf] at hx
      simp only [Option.bind_some] at hx
      have r := RV.freeze q1 hf
      have sf : Stp M1 Sh1 (fun n => A1 n ∨ B1 n) M1 (fun n => Sh1 n ∨ A1 n) (fun n => False ∨ B1 n) := Stp.frz ok1 (fun _ h => .inl h) (fun n h => h.elim False.elim fun h => ⟨.inr h, fun a => di1 n a h⟩)
      have re2 : RE M1 (fun n => Sh1 n ∨ A1 n) E1 Ep B1 := re1.mono (fun n h => ⟨.inl h, rfl⟩) (fun _ _ => rfl)
      cases y with
      | tup ys =>
        cases hx
        obtain ⟨ps, e, rs⟩ := r
        rw [e]
        exact ⟨(enumFrom 0 ps, none), M1, _, fun _ => False, B1, rfl, ⟨rs.enum 0, .inl rfl, fun _ h => h⟩, re2, fun _ h => h.elim, sf⟩
      | lst ys =>
        cases hx
        obtain ⟨n, ps, e, hn, mm, rs⟩ := r
        simp only [objOf] at mm
        rw [e]
        simp only [walkedE, mm, lift]
        exact ⟨(enumFrom 0 ps, some (n, ps)), M1, _, fun _ => False, B1, rfl, ⟨rs.enum 0, .inr ⟨n, ps, rfl, hn, mm⟩, fun _ h => h⟩, re2, fun _ h => h.elim, sf⟩
      | _ => cases hx
  | .zip _ _, _, _, _, _, _, _, _ => trivial
end
end Wn
end
section
/-! Vs10: statements, functions, programs. -/
namespace Wn
open PySem
/-- how a statement ends, and with which names -/
def RFl (M : Store) (Sh : FP) (Ep' : Env) : VFl → Fl → FP → Prop
  | .nx, f, A => f = .nx Ep' ∧ ∀ n, ¬ A n
  | .bk, f, A => f = .bk Ep' ∧ ∀ n, ¬ A n
  | .ct, f, A => f = .ct Ep' ∧ ∀ n, ¬ A n
  | .rt v, f, A => ∃ p, f = .rt p ∧ RV M Sh v p A
def OutS (pin : List Bool) (r : R VFl) (out : Res Fl) (Ep : Env) (M : Store) (Sh F : FP) : Prop := match r with
  | .ok a E' => ∃ (b : Fl) (M' : Store) (Sh' A B : FP) (Ep' : Env), out = .ok b M' ∧ RFl M' Sh' Ep' a b A ∧ RE M' Sh' E' Ep' B ∧ (∀ n, A n → ¬ B n) ∧ Pin pin Ep Ep' ∧ Stp M Sh F M' Sh' (fun n => A n ∨ B n)
  | .err C fs vs E' => ∃ (qs : List PV) (M' : Store) (Sh' B : FP) (Ep' : Env), out = .err ⟨C, fs, qs⟩ M' ∧ fs.length = vs.length ∧ RIs M' Sh' vs qs ∧ RE M' Sh' E' Ep' B ∧ Pin pin Ep Ep' ∧ Stp M Sh F M' Sh' B
  | .bad => True
section
variable {pin : List Bool} {M : Store} {Sh F : FP} {Ep : Env}
theorem OutS.widen {r : R VFl} {out : Res Fl} {B : FP} (o : OutS pin r out Ep M Sh B) (h : ∀ n, B n → F n) : OutS pin r out Ep M Sh F := by
  cases r with
  | ok a E' => obtain ⟨b, M', Sh', A, B, Ep', e, q, re, di, pn, s⟩ := o; exact ⟨b, M', Sh', A, B, Ep', e, q, re, di, pn, s.widen h⟩
  | err C fs vs E' => obtain ⟨qs, M', Sh', B, Ep', e, l, q, re, pn, s⟩ := o; exact ⟨qs, M', Sh', B, Ep', e, l, q, re, pn, s.widen h⟩
  | bad => trivial
/-- behind an expression -/
theorem Out.bindS {α β : Type} {Q : Env → Store → FP → α → β → FP → Prop} {r : R α} {k : α → VE → R VFl} {out : Res β} {h : β → Store → Res Fl} (o : Out Q r out Ep M Sh F) (ok : Ok M Sh F)
    (t : ∀ (a : α) (E' : VE) (b : β) (M' : Store) (Sh' A' B' : FP), Q Ep M' Sh' a b A' → RE M' Sh' E' Ep B' → (∀ n, A' n → ¬ B' n) → Ok M' Sh' (fun n => A' n ∨ B' n) → OutS pin (k a E') (h b M') Ep M' Sh' (fun n => A' n ∨ B' n)) :
    OutS pin (r.bind k) (out.bind h) Ep M Sh F := by
  cases r with
  | bad => trivial
  | err C fs vs E' =>
    obtain ⟨qs, M', Sh', B', e, l, q, re, s⟩ := o
    rw [e]
    exact ⟨qs, M', Sh', B', Ep, rfl, l, q, re, .refl _ _, s⟩
  | ok a E' =>
    obtain ⟨b, M', Sh', A', B', e, q, re, di, s⟩ := o
    have t' := t a E' b M' Sh' A' B' q re di s.ok
    rw [e]
    show OutS pin (k a E') (h b M') Ep M Sh F
    cases hk : k a E' with
    | bad => trivial
    | err C fs vs E2 =>
      rw [hk] at t'
      obtain ⟨qs, M2, Sh2, B2, Ep2, e2, l2, q2, re2, pn, s2⟩ := t'
      exact ⟨qs, M2, Sh2, B2, Ep2, e2, l2, q2, re2, pn, s.seq s2 (fun _ h => h) (G := fun _ => False) (fun _ h => h.elim) (fun _ h => .inr h)⟩
    | ok c E2 =>
      rw [hk] at t'
      obtain ⟨b2, M2, Sh2, A2, B2, Ep2, e2, q2, re2, di2, pn, s2⟩ := t'
      exact ⟨b2, M2, Sh2, A2, B2, Ep2, e2, q2, re2, di2, pn, s.seq s2 (fun _ h => h) (G := fun _ => False) (fun _ h => h.elim) (fun _ h => .inr h)⟩
/-- behind a statement -/
theorem OutS.bindS {r : R VFl} {k : VFl → VE → R VFl} {out : Res Fl} {h : Fl → Store → Res Fl} (o : OutS pin r out Ep M Sh F) (ok : Ok M Sh F)
    (t : ∀ (a : VFl) (E' : VE) (b : Fl) (M' : Store) (Sh' A' B' : FP) (Ep' : Env), RFl M' Sh' Ep' a b A' → RE M' Sh' E' Ep' B' → (∀ n, A' n → ¬ B' n) → Ok M' Sh' (fun n => A' n ∨ B' n) → (∀ n, Sh n → Sh' n ∧ M'[n]? = M[n]?) → OutS pin (k a E') (h b M') Ep' M' Sh' (fun n => A' n ∨ B' n)) :
    OutS pin (r.bind k) (out.bind h) Ep M Sh F := by
  cases r with
  | bad => trivial
  | err C fs vs E' =>
    obtain ⟨qs, M', Sh', B', Ep', e, l, q, re, pn, s⟩ := o
    rw [e]
    exact ⟨qs, M', Sh', B', Ep', rfl, l, q, re, pn, s⟩
  | ok a E' =>
    obtain ⟨b, M', Sh', A', B', Ep', e, q, re, di, pn, s⟩ := o
    have t' := t a E' b M' Sh' A' B' Ep' q re di s.ok (s.kept ok)
    rw [e]
    show OutS pin (k a E') (h b M') Ep M Sh F
    cases hk : k a E' with
    | bad => trivial
    | err C fs vs E2 =>
      rw [hk] at t'
      obtain ⟨qs, M2, Sh2, B2, Ep2, e2, l2, q2, re2, pn2, s2⟩ := t'
      exact ⟨qs, M2, Sh2, B2, Ep2, e2, l2, q2, re2, pn.trans pn2, s.seq s2 (fun _ h => h) (G := fun _ => False) (fun _ h => h.elim) (fun _ h => .inr h)⟩
    | ok c E2 =>
      rw [hk] at t'
      obtain ⟨b2, M2, Sh2, A2, B2, Ep2, e2, q2, re2, di2, pn2, s2⟩ := t'
      exact ⟨b2, M2, Sh2, A2, B2, Ep2, e2, q2, re2, di2, pn.trans pn2, s.seq s2 (fun _ h => h) (G := fun _ => False) (fun _ h => h.elim) (fun _ h => .inr h)⟩
/-- the end of a statement: names only -/
theorem OutS.nx {E : VE} {Ep' : Env} {B : FP} (re : RE M Sh E Ep' B) (ok : Ok M Sh F) (hB : ∀ n, B n → F n) (pn : Pin pin Ep Ep') : OutS pin (.ok .nx E) (.ok (.nx Ep') M) Ep M Sh F :=
  ⟨.nx Ep', M, Sh, fun _ => False, B, Ep', rfl, ⟨rfl, fun _ h => h⟩, re, fun _ h => h.elim, pn, (Stp.refl ok).drop fun n h => h.elim False.elim (hB n)⟩
end
/-- loops -/
theorem vforGo_ok {pin : List Bool} {w : Watch} {sv : I → VE → R VFl} {sp : PV → Env → Store → Res Fl} (hs : ∀ (x : I) (p : PV) (E : VE) (Ep : Env) (M : Store) (Sh F : FP), RI M Sh x p → RE M Sh E Ep F → Ok M Sh F → OutS pin (sv x E) (sp p Ep M) Ep M Sh F) :
    ∀ (xs : List I) {ps : List PV} {E : VE} {Ep : Env} {M : Store} {Sh F : FP}, RIs M Sh xs ps → WOk M Sh w → RE M Sh E Ep F → Ok M Sh F → OutS pin (vforGo sv xs E) (forGo w sp ps Ep M) Ep M Sh F
  | [], ps, E, Ep, M, Sh, F, r, wo, re, ok => by
    rw [show ps = [] from r]
    simp only [vforGo, forGo, wo.ok, if_true]
    exact OutS.nx re ok (fun _ h => h) (.refl _ _)
  | x :: xs, _, E, Ep, M, Sh, F, ⟨p, ps, e, r, rs⟩, wo, re, ok => by
    rw [e]
    simp only [vforGo, forGo, wo.ok, if_true]
    refine (hs x p E Ep M Sh F r re ok).bindS ok fun a E1 b M1 Sh1 A1 B1 Ep1 q re1 di ok1 kp => ?_
    have go := vforGo_ok (w := w) hs xs (rs.mono kp) (wo.mono kp) re1 (ok1.sub fun _ h => .inr h)
    cases a with
    | nx => rw [q.1]; exact go.widen fun _ h => .inr h
    | ct => rw [q.1]; exact go.widen fun _ h => .inr h
    | bk => rw [q.1]; exact OutS.nx re1 ok1 (fun _ h => .inr h) (.refl _ _)
    | rt v =>
      obtain ⟨pv, e1, r1⟩ := q
      rw [e1]
      exact ⟨.rt pv, M1, Sh1, A1, B1, Ep1, rfl, ⟨pv, rfl, r1⟩, re1, di, .refl _ _, Stp.refl ok1⟩
theorem vwhileGo_ok {pin : List Bool} {tv : VE → R Bool} {tp : Env → Store → Res Bool} {sv : VE → R VFl} {sp : Env → Store → Res Fl}
    (ht : ∀ (E : VE) (Ep : Env) (M : Store) (Sh F : FP), RE M Sh E Ep F → Ok M Sh F → Out QE (tv E) (tp Ep M) Ep M Sh F)
    (hs : ∀ (E : VE) (Ep : Env) (M : Store) (Sh F : FP), RE M Sh E Ep F → Ok M Sh F → OutS pin (sv E) (sp Ep M) Ep M Sh F) :
    ∀ (n : Nat) {E : VE} {Ep : Env} {M : Store} {Sh F : FP}, RE M Sh E Ep F → Ok M Sh F → OutS pin (vwhileGo tv sv n E) (whileGo tp sp n Ep M) Ep M Sh F
  | 0, _, _, _, _, _, _, _ => trivial
  | n + 1, E, Ep, M, Sh, F, re, ok => by
    simp only [vwhileGo, whileGo]
    refine (ht E Ep M Sh F re ok).bindS ok fun k E1 k2 M1 Sh1 A1 B1 q re1 di ok1 => ?_
    obtain ⟨rfl, _⟩ := q
    cases k with
    | false => exact OutS.nx re1 ok1 (fun _ h => .inr h) (.refl _ _)
    | true =>
      simp only [if_true]
      refine ((hs E1 Ep M1 Sh1 B1 re1 (ok1.sub fun _ h => .inr h)).widen (F := fun n => A1 n ∨ B1 n) fun _ h => .inr h).bindS ok1 fun a E2 b M2 Sh2 A2 B2 Ep2 q re2 di2 ok2 kp2 => ?_
      have go := vwhileGo_ok ht hs n re2 (ok2.sub fun _ h => .inr h)
      cases a with
      | nx => rw [q.1]; exact go.widen fun _ h => .inr h
      | ct => rw [q.1]; exact go.widen fun _ h => .inr h
      | bk => rw [q.1]; exact OutS.nx re2 ok2 (fun _ h => .inr h) (.refl _ _)
      | rt v =>
        obtain ⟨pv, e1, r1⟩ := q
        rw [e1]
        exact ⟨.rt pv, M2, Sh2, A2, B2, Ep2, rfl, ⟨pv, rfl, r1⟩, re2, di2, .refl _ _, Stp.refl ok2⟩
theorem kill_ok {M : Store} {Sh : FP} {Ep : Env} : ∀ (is : List Nat) {E : VE} {B : FP}, RE M Sh E Ep B → ∃ B' : FP, RE M Sh (killAll is E) Ep B' ∧ ∀ n, B' n → B n
  | [], E, B, re => ⟨B, re, fun _ h => h⟩
  | i :: is, E, B, re => by
    obtain ⟨B1, r1, s1⟩ := re.setGone (i := i) (Ep.getD i none)
    have : Ep.set i (Ep.getD i none) = Ep := by
      by_cases h : i < Ep.length
      · have e : Ep[i]? = some (Ep.getD i none) := by simp [List.getD, h]
        exact set_same e
      · exact List.set_eq_of_length_le (by omega)
    rw [this] at r1
    obtain ⟨B2, r2, s2⟩ := kill_ok is r1
    exact ⟨B2, r2, fun n h => s1 n (s2 n h)⟩

variable {c : VC} {d : Ctx}
mutual
theorem sVS (L : Lnk c d) : ∀ (s : S) {E : VE} {M : Store} {Sh : FP} {Ep : Env} {F : FP}, RE M Sh E Ep F → Ok M Sh F → OutS c.pin (vS c s E) (evS d s Ep M) Ep M Sh F
  | .asg i e, E, M, Sh, Ep, F, re, ok => by
    simp only [vS, evS]
    refine (sV L e re ok).bindS ok fun x E1 p M1 Sh1 A1 B1 q1 re1 di1 ok1 => ?_
    split
    · trivial
    · rename_i hp
      obtain ⟨B2, re2, s2⟩ := re1.set (i := i) q1 di1
      exact OutS.nx re2 ok1 s2 (Pin.set hp)
  | .unp is e, E, M, Sh, Ep, F, re, ok => by
    simp only [vS, evS]
    refine (sV L e re ok).bindS ok fun x E1 p M1 Sh1 A1 B1 q1 re1 di1 ok1 => ?_
    split
    · rename_i E2 hs
      obtain ⟨Ep2, B2, e2, re2, s2, pn, _⟩ := setTg_ok q1 re1 di1 hs
      rw [e2]
      exact OutS.nx re2 ok1 s2 pn
    · trivial
  | .seti o i e, E, M, Sh, Ep, F, re, ok => by
    simp only [vS, evS]
    refine (sV L e re ok).bindS ok fun v E1 pv M1 Sh1 A1 B1 q1 re1 di1 ok1 => ?_
    split
    · rename_i n js k hp hk
      split
      · rename_i o1 hpk
        split
        · rename_i o2 hset
          have hg : o1 ≠ .gone := by rintro rfl; cases hset
          obtain ⟨p0, q, e1, e2, e3⟩ := plc_ok L re1 o hp hpk hg
          obtain ⟨p', q', A2, B2, e1', e2', r2, d2, f2, k2⟩ := re1.peek hpk hg
          rw [e1] at e1'; cases e1'
          rw [e2] at e2'; cases e2'
          obtain ⟨pk, e4, rk⟩ := sEv_ok L re1 i hk
          have okAD : Ok M1 Sh1 (fun n => A2 n ∨ A1 n) := ok1.sub fun n h => h.elim (fun h => .inr ((f2 n).2 (.inl h))) .inl
          obtain ⟨m, ob, A3, eq, hm, r3, s3, hob⟩ := vSet_ok r2 rk q1 (fun n h h2 => di1 n h2 ((f2 n).2 (.inl h))) okAD hset
          have hs0 := ok1.ns m (.inr ((f2 m).2 (.inl hm)))
          have re3 := k2 (M1.set m ob) Sh1 o2 A3 (fun n h => ⟨h, by rw [List.getElem?_set_ne]; rintro rfl; exact hs0 h⟩) (fun n h => by rw [List.getElem?_set_ne]; rintro rfl; exact d2 _ hm h) r3 (fun n h h2 => (s3 n h).elim (fun h => d2 n h h2) fun h => di1 n h ((f2 n).2 (.inr h2)))
          have hall : ∀ n, (False ∨ A3 n ∨ B2 n) → A1 n ∨ B1 n := fun n h => h.elim False.elim fun h => h.elim (fun h => (s3 n h).elim (fun h => .inr ((f2 n).2 (.inl h))) .inl) fun h => .inr ((f2 n).2 (.inr h))
          have fin : OutS c.pin (.ok .nx (pokeE E1 n js o2)) (.ok (.nx Ep) (M1.set m ob)) Ep M1 Sh1 (fun n => A1 n ∨ B1 n) :=
            ⟨.nx Ep, M1.set m ob, Sh1, fun _ => False, _, Ep, rfl, ⟨rfl, fun _ h => h⟩, re3, fun _ h => h.elim, .refl _ _, Stp.put ok1 (.inr ((f2 m).2 (.inl hm))) ob hall⟩
          simp only [e3, e4, Res.bind_ok, eq]
          rcases hob with ⟨xs, z, j, m1, hz, hj, ho⟩ | ⟨kvs, m1, hc, ho⟩
          · simp only [m1, hz, hj]
            rw [ho] at fin; exact fin
          · simp only [m1, hc, if_true]
            rw [ho] at fin; exact fin
        · trivial
      · trivial
    · trivial
  | .setf o f e, E, M, Sh, Ep, F, re, ok => by
    simp only [vS, evS]
    refine (sV L e re ok).bindS ok fun v E1 pv M1 Sh1 A1 B1 q1 re1 di1 ok1 => ?_
    split
    · rename_i n js hp
      split
      · rename_i o1 hpk
        split
        · rename_i o2 hset
          have hg : o1 ≠ .gone := by rintro rfl; cases hset
          obtain ⟨p0, q, e1, e2, e3⟩ := plc_ok L re1 o hp hpk hg
          obtain ⟨p', q', A2, B2, e1', e2', r2, d2, f2, k2⟩ := re1.peek hpk hg
          rw [e1] at e1'; cases e1'
          rw [e2] at e2'; cases e2'
          have okAD : Ok M1 Sh1 (fun n => A2 n ∨ A1 n) := ok1.sub fun n h => h.elim (fun h => .inr ((f2 n).2 (.inl h))) .inl
          obtain ⟨m, C, fs, A3, eq, hm, mm, r3, s3⟩ := vSetF_ok r2 q1 (fun n h h2 => di1 n h2 ((f2 n).2 (.inl h))) okAD hset
          have hs0 := ok1.ns m (.inr ((f2 m).2 (.inl hm)))
          have re3 := k2 _ Sh1 o2 A3 (fun n h => ⟨h, by rw [List.getElem?_set_ne]; rintro rfl; exact hs0 h⟩) (fun n h => by rw [List.getElem?_set_ne]; rintro rfl; exact d2 _ hm h) r3 (fun n h h2 => (s3 n h).elim (fun h => d2 n h h2) fun h => di1 n h ((f2 n).2 (.inr h2)))
          have hall : ∀ n, (False ∨ A3 n ∨ B2 n) → A1 n ∨ B1 n := fun n h => h.elim False.elim fun h => h.elim (fun h => (s3 n h).elim (fun h => .inr ((f2 n).2 (.inl h))) .inl) fun h => .inr ((f2 n).2 (.inr h))
          simp only [e3, Res.bind_ok, eq, mm]
          exact ⟨.nx Ep, _, Sh1, fun _ => False, _, Ep, rfl, ⟨rfl, fun _ h => h⟩, re3, fun _ h => h.elim, .refl _ _, Stp.put ok1 (.inr ((f2 m).2 (.inl hm))) _ hall⟩
        · trivial
      · trivial
    · trivial
  | .nev, _, _, _, _, _, _, _ => trivial
  | .ex e, E, M, Sh, Ep, F, re, ok => by
    simp only [vS, evS]
    refine (sV L e re ok).bindS ok fun x E1 p M1 Sh1 A1 B1 q1 re1 di1 ok1 => ?_
    exact OutS.nx re1 ok1 (fun _ h => .inr h) (.refl _ _)
  | .ret e, E, M, Sh, Ep, F, re, ok => by
    simp only [vS, evS]
    refine (sV L e re ok).bindS ok fun x E1 p M1 Sh1 A1 B1 q1 re1 di1 ok1 => ?_
    exact ⟨.rt p, M1, Sh1, A1, B1, Ep, rfl, ⟨p, rfl, q1⟩, re1, di1, .refl _ _, Stp.refl ok1⟩
  | .retN, E, M, Sh, Ep, F, re, ok => ⟨.rt .non, M, Sh, fun _ => False, F, Ep, rfl, ⟨.non, rfl, rfl, fun _ h => h⟩, re, fun _ h => h.elim, .refl _ _, (Stp.refl ok).drop fun n h => h.elim False.elim id⟩
  | .pass, E, M, Sh, Ep, F, re, ok => OutS.nx re ok (fun _ h => h) (.refl _ _)
  | .brk, E, M, Sh, Ep, F, re, ok => ⟨.bk Ep, M, Sh, fun _ => False, F, Ep, rfl, ⟨rfl, fun _ h => h⟩, re, fun _ h => h.elim, .refl _ _, (Stp.refl ok).drop fun n h => h.elim False.elim id⟩
  | .cont, E, M, Sh, Ep, F, re, ok => ⟨.ct Ep, M, Sh, fun _ => False, F, Ep, rfl, ⟨rfl, fun _ h => h⟩, re, fun _ h => h.elim, .refl _ _, (Stp.refl ok).drop fun n h => h.elim False.elim id⟩
  | .ifs t a b, E, M, Sh, Ep, F, re, ok => by
    simp only [vS, evS]
    refine (sVT L t re ok).bindS ok fun k E1 k2 M1 Sh1 A1 B1 q1 re1 di1 ok1 => ?_
    obtain ⟨rfl, _⟩ := q1
    cases k with
    | true => exact (sVSs L a re1 (ok1.sub fun _ h => .inr h)).widen fun _ h => .inr h
    | false => exact (sVSs L b re1 (ok1.sub fun _ h => .inr h)).widen fun _ h => .inr h
  | .whl t b, E, M, Sh, Ep, F, re, ok => by
    simp only [vS, evS]
    rw [L.wf]
    exact vwhileGo_ok (fun E Ep M Sh F re ok => sVT L t re ok) (fun E Ep M Sh F re ok => sVSs L b re ok) _ re ok
  | .for_ g it b, E, M, Sh, Ep, F, re, ok => by
    simp only [vS, evS]
    refine (sVI L it re ok).bindS ok fun xs E1 w M1 Sh1 A1 B1 q1 re1 di1 ok1 => ?_
    obtain ⟨rx, wo, em⟩ := q1
    refine (vforGo_ok (w := w.2) ?_ xs rx wo re1 (ok1.sub fun _ h => .inr h)).widen fun _ h => .inr h
    intro x p E Ep M Sh F r re ok
    split
    · rename_i E2 hs
      obtain ⟨Ep2, B2, e2, re2, s2, pn, _⟩ := setTg_ok (A := fun _ => False) (v := .im x) ⟨r, fun _ h => h⟩ re (fun _ h => h.elim) hs
      rw [e2]
      have h2 := sVSs L b re2 (ok.sub fun n h => (s2 n h).elim False.elim id)
      have h3 := h2.widen (F := F) fun n h => (s2 n h).elim False.elim id
      simp only
      cases hr : vSs c b E2 with
      | bad => trivial
      | err C fs vs E' =>
        rw [hr] at h3
        obtain ⟨qs, M', Sh', B, Ep', e, l, q, re, pn', s⟩ := h3
        exact ⟨qs, M', Sh', B, Ep', e, l, q, re, pn.trans pn', s⟩
      | ok a E' =>
        rw [hr] at h3
        obtain ⟨b, M', Sh', A, B, Ep', e, q, re, di, pn', s⟩ := h3
        exact ⟨b, M', Sh', A, B, Ep', e, q, re, di, pn.trans pn', s⟩
    · trivial
  | .kill is, E, M, Sh, Ep, F, re, ok => by
    simp only [vS, evS]
    obtain ⟨B, r, s⟩ := kill_ok is re
    exact OutS.nx r ok s (.refl _ _)
  | .rai C es, E, M, Sh, Ep, F, re, ok => by
    simp only [vS, evS]
    refine (sVs L es re ok).bindS ok fun vs E1 ps M1 Sh1 A1 B1 q1 re1 di1 ok1 => ?_
    rw [L.exc]
    split
    · rename_i h1
      simp only [h1]
      exact ⟨[], M1, Sh1, B1, Ep, rfl, rfl, rfl, re1, .refl _ _, (Stp.refl ok1).drop fun _ h => .inr h⟩
    · rename_i f v h1
      split
      · rename_i x hx
        obtain ⟨p, e, r⟩ := RVs.one_inv q1
        simp only [h1, e]
        refine ⟨[p], M1, fun n => Sh1 n ∨ A1 n, B1, Ep, rfl, rfl, ⟨p, [], rfl, r.freeze hx, rfl⟩, re1.mono (fun n h => ⟨.inl h, rfl⟩) (fun _ _ => rfl), .refl _ _, Stp.frz ok1 (fun _ h => .inl h) fun n h => ⟨.inr h, fun a => di1 n a h⟩⟩
      · trivial
    · trivial
  | .tr i e hs, E, M, Sh, Ep, F, re, ok => by
    have h := sV L e re ok
    simp only [vS, evS]
    cases hr : vE c e E with
    | bad => trivial
    | ok x E1 =>
      rw [hr] at h
      obtain ⟨p, M1, Sh1, A1, B1, e1, q1, re1, di1, s1⟩ := h
      rw [e1]
      cases i with
      | none => exact ⟨.nx Ep, M1, Sh1, fun _ => False, B1, Ep, rfl, ⟨rfl, fun _ h => h⟩, re1, fun _ h => h.elim, .refl _ _, s1.drop fun n h => h.elim False.elim .inr⟩
      | some j =>
        simp only
        split
        · trivial
        · rename_i hp
          obtain ⟨B2, re2, s2⟩ := re1.set (i := j) q1 di1
          exact ⟨.nx _, M1, Sh1, fun _ => False, B2, _, rfl, ⟨rfl, fun _ h => h⟩, re2, fun _ h => h.elim, Pin.set hp, s1.drop fun n h => h.elim False.elim (s2 n)⟩
    | err C fs vs E1 =>
      rw [hr] at h
      obtain ⟨qs, M1, Sh1, B1, e1, l, q1, re1, s1⟩ := h
      rw [e1]
      have h2 := sVHs L hs (C := C) (fs := fs) l q1 re1 s1.ok
      simp only
      cases hr2 : vHs c hs C fs vs E1 with
      | bad => trivial
      | err C fs vs E' =>
        rw [hr2] at h2
        obtain ⟨qs, M', Sh', B, Ep', e, l, q, re, pn', s⟩ := h2
        exact ⟨qs, M', Sh', B, Ep', e, l, q, re, pn', s1.seq s (fun _ h => h) (G := fun _ => False) (fun _ h => h.elim) (fun _ h => .inr h)⟩
      | ok a E' =>
        rw [hr2] at h2
        obtain ⟨b, M', Sh', A, B, Ep', e, q, re, di, pn', s⟩ := h2
        exact ⟨b, M', Sh', A, B, Ep', e, q, re, di, pn', s1.seq s (fun _ h => h) (G := fun _ => False) (fun _ h => h.elim) (fun _ h => .inr h)⟩
theorem sVHs (L : Lnk c d) : ∀ (hs : Hs) {C : Str} {fs : List Str} {vs : List I} {qs : List PV} {E : VE} {M : Store} {Sh : FP} {Ep : Env} {F : FP}, fs.length = vs.length → RIs M Sh vs qs → RE M Sh E Ep F → Ok M Sh F → OutS c.pin (vHs c hs C fs vs E) (evHs d hs ⟨C, fs, qs⟩ Ep M) Ep M Sh F
  | .nil, C, fs, vs, qs, E, M, Sh, Ep, F, l, r, re, ok => ⟨qs, M, Sh, F, Ep, rfl, l, r, re, .refl _ _, Stp.refl ok⟩
  | .cons D i b hs, C, fs, vs, qs, E, M, Sh, Ep, F, l, r, re, ok => by
    simp only [vHs, evHs]
    rw [L.sub]
    split
    · cases i with
      | none => exact sVSs L b re ok
      | some j =>
        simp only
        split
        · trivial
        · rename_i hp
          obtain ⟨B2, re2, s2⟩ := re.setIm (i := j) (x := .exc C fs vs) (p := .exc C fs qs) ⟨qs, rfl, l, r⟩
          have h2 := (sVSs L b re2 (ok.sub s2)).widen (F := F) s2
          cases hr : vSs c b (E.set j (.im (.exc C fs vs))) with
          | bad => trivial
          | err C' fs' vs' E' =>
            rw [hr] at h2
            obtain ⟨qs, M', Sh', B, Ep', e, l, q, re, pn', s⟩ := h2
            rw [e]
            exact ⟨qs, M', Sh', B, Ep', rfl, l, q, re, (Pin.set hp).trans pn', s⟩
          | ok a E' =>
            rw [hr] at h2
            obtain ⟨b, M', Sh', A, B, Ep', e, q, re', di, pn', s⟩ := h2
            rw [e]
            obtain ⟨B3, re3, s3⟩ := re'.setGone (i := j) none
            have pn3 : Pin c.pin Ep (Ep'.set j none) := ((Pin.set hp).trans pn').trans (Pin.set hp)
            refine ⟨Fl.unset j b, M', Sh', A, B3, Ep'.set j none, rfl, ?_, re3, fun n h h2 => di n h (s3 n h2), pn3, s.drop fun n h => h.elim .inl fun h => .inr (s3 n h)⟩
            cases a with
            | nx => rw [q.1]; exact ⟨rfl, q.2⟩
            | bk => rw [q.1]; exact ⟨rfl, q.2⟩
            | ct => rw [q.1]; exact ⟨rfl, q.2⟩
            | rt v => obtain ⟨p, e2, r2⟩ := q; rw [e2]; exact ⟨p, rfl, r2⟩
    · exact sVHs L hs l r re ok
theorem sVSs (L : Lnk c d) : ∀ (ss : Ss) {E : VE} {M : Store} {Sh : FP} {Ep : Env} {F : FP}, RE M Sh E Ep F → Ok M Sh F → OutS c.pin (vSs c ss E) (evSs d ss Ep M) Ep M Sh F
  | .nil, E, M, Sh, Ep, F, re, ok => OutS.nx re ok (fun _ h => h) (.refl _ _)
  | .cons s ss, E, M, Sh, Ep, F, re, ok => by
    simp only [vSs, evSs]
    refine (sVS L s re ok).bindS ok fun a E1 b M1 Sh1 A1 B1 Ep1 q re1 di ok1 kp => ?_
    cases a with
    | nx => rw [q.1]; exact (sVSs L ss re1 (ok1.sub fun _ h => .inr h)).widen fun _ h => .inr h
    | ct => rw [q.1]; exact ⟨.ct Ep1, M1, Sh1, A1, B1, Ep1, rfl, ⟨rfl, q.2⟩, re1, di, .refl _ _, Stp.refl ok1⟩
    | bk => rw [q.1]; exact ⟨.bk Ep1, M1, Sh1, A1, B1, Ep1, rfl, ⟨rfl, q.2⟩, re1, di, .refl _ _, Stp.refl ok1⟩
    | rt v =>
      obtain ⟨pv, e1, r1⟩ := q
      rw [e1]
      exact ⟨.rt pv, M1, Sh1, A1, B1, Ep1, rfl, ⟨pv, rfl, r1⟩, re1, di, .refl _ _, Stp.refl ok1⟩
end

/-! ### functions -/
theorem start_re {M : Store} {Sh : FP} : ∀ {args : List V} {ps : List PV} {A : FP} (k : Nat), RVs M Sh args ps A → RE M Sh (args ++ List.replicate k .gone) (ps.map some ++ List.replicate k none) A
  | [], _, A, k, r => by
    rw [r.1]
    simp only [List.nil_append, List.map_nil]
    induction k with
    | zero => exact ⟨rfl, r.2⟩
    | succ k ih => exact ⟨none, _, A, A, rfl, .inl ⟨rfl, r.2⟩, ih, fun n h => (r.2 n h).elim, fun n => ⟨.inl, fun h => h.elim id id⟩⟩
  | v :: args, _, A, k, ⟨p, qs, B, C, e, r, rs, d, f⟩ => by
    rw [e]
    exact ⟨some p, _, B, C, rfl, .inr ⟨p, rfl, r⟩, start_re k rs, d, f⟩
theorem outs_ok {M : Store} {Sh : FP} : ∀ (io : List Bool) {ps : List PV} {rest : Env} {E : VE} {B : FP}, RE M Sh E rest B → ps.length ≤ E.length → (∀ i p, io.getD i false = true → ps[i]? = some p → rest[i]? = some (some p)) → ∃ O : FP, RVs M Sh (outsOf io ps.length E) ps O ∧ ∀ n, O n → B n
  | io, [], rest, E, B, re, l, h => ⟨fun _ => False, ⟨rfl, fun _ h => h⟩, fun _ h => h.elim⟩
  | io, p :: ps, rest, [], B, re, l, h => by simp at l
  | io, p :: ps, rest, v :: E, B, ⟨o, os, A, C, e, r, rs, d, f⟩, l, h => by
    obtain ⟨O, ro, s⟩ := outs_ok io.tail (ps := ps) rs (by simpa using l) (by
      intro i q hi hq
      have := h (i + 1) q (by cases io <;> simpa using hi) (by simpa using hq)
      rw [e] at this; simpa using this)
    simp only [List.length_cons, outsOf]
    by_cases hio : ioAt io = true
    · rw [if_pos hio]
      have h0 := h 0 p (by cases io <;> simpa [ioAt] using hio) rfl
      rw [e] at h0
      simp at h0
      rcases r with ⟨rfl, em⟩ | ⟨p', rfl, r⟩
      · exact ⟨O, ⟨p, ps, fun _ => False, O, rfl, fun _ h => h, ro, fun _ h => h.elim, fun n => ⟨.inr, fun h => h.elim False.elim id⟩⟩, fun n x => (f n).2 (.inr (s n x))⟩
      · cases h0
        exact ⟨fun n => A n ∨ O n, ⟨p, ps, A, O, rfl, r, ro, fun n x y => d n x (s n y), fun _ => Iff.rfl⟩, fun n x => (f n).2 (x.elim .inl fun x => .inr (s n x))⟩
    · rw [if_neg hio]
      exact ⟨O, ⟨p, ps, fun _ => False, O, rfl, fun _ h => h, ro, fun _ h => h.elim, fun n => ⟨.inr, fun h => h.elim False.elim id⟩⟩, fun n x => (f n).2 (.inr (s n x))⟩
theorem vRun_ok (L : Lnk c d) (f : Fn) (io : List Bool) (args : List V) : ROk (vRun c f io args) args (runFn d f) := by
  intro M Sh ps G rv ok
  have L' : Lnk { c with pin := io } d := ⟨L.call, L.make, L.meth, L.glo, L.wf, L.sub, L.exc⟩
  have hl := rv.length
  simp only [vRun, runFn]
  split
  · -- a value
    rename_i v outs hv
    split at hv
    · rename_i hn
      have h := sVSs L' f.body (start_re (f.names.length - args.length) rv) ok
      rw [if_pos (by rw [hl]; exact hn)]
      have hl2 : f.names.length - ps.length = f.names.length - args.length := by rw [hl]
      rw [hl2]
      split at hv
      · rename_i v' E hr
        cases hv
        rw [hr] at h
        obtain ⟨b, M', Sh', A, B, Ep', e, ⟨p, e2, q⟩, re, di, pn, s⟩ := h
        rw [e, e2]
        have hlen : ps.length ≤ E.length := by rw [← re.length, pn.1]; simp
        obtain ⟨O, ro, so⟩ := outs_ok io re hlen (by
          intro i q hi hq
          rw [pn.2 i hi, List.getElem?_append_left (by simpa using (List.getElem?_eq_some_iff.1 hq).1)]
          simp [hq])
        rw [hl, hn] at ro
        exact ⟨p, M', Sh', A, O, rfl, q, ro, fun n x y => di n x (so n y), s.drop fun n x => x.elim .inl fun x => .inr (so n x)⟩
      · rename_i E hr
        cases hv
        rw [hr] at h
        obtain ⟨b, M', Sh', A, B, Ep', e, ⟨e2, em⟩, re, di, pn, s⟩ := h
        rw [e, e2]
        have hlen : ps.length ≤ E.length := by rw [← re.length, pn.1]; simp
        obtain ⟨O, ro, so⟩ := outs_ok io re hlen (by
          intro i q hi hq
          rw [pn.2 i hi, List.getElem?_append_left (by simpa using (List.getElem?_eq_some_iff.1 hq).1)]
          simp [hq])
        rw [hl, hn] at ro
        exact ⟨.non, M', Sh', fun _ => False, O, rfl, ⟨rfl, fun _ h => h⟩, ro, fun n x => x.elim, s.drop fun n x => x.elim False.elim fun x => .inr (so n x)⟩
      · cases hv
      · cases hv
    · cases hv
  · rename_i C fs vs outs hv
    split at hv
    · rename_i hn
      have h := sVSs L' f.body (start_re (f.names.length - args.length) rv) ok
      rw [if_pos (by rw [hl]; exact hn)]
      have hl2 : f.names.length - ps.length = f.names.length - args.length := by rw [hl]
      rw [hl2]
      split at hv
      · cases hv
      · cases hv
      · rename_i E hr
        cases hv
        rw [hr] at h
        obtain ⟨qs, M', Sh', B, Ep', e, l, q, re, pn, s⟩ := h
        rw [e]
        have hlen : ps.length ≤ E.length := by rw [← re.length, pn.1]; simp
        obtain ⟨O, ro, so⟩ := outs_ok io re hlen (by
          intro i q hi hq
          rw [pn.2 i hi, List.getElem?_append_left (by simpa using (List.getElem?_eq_some_iff.1 hq).1)]
          simp [hq])
        rw [hl, hn] at ro
        exact ⟨qs, M', Sh', O, rfl, l, q, ro, s.drop so⟩
      · cases hv
    · cases hv
  · trivial
theorem vMake_ok {meth : Str → Str → List V → RO} {g : Str → Str → List PV → Store → Res PV} (h : ∀ C m args, ROk (meth C m args) args (g C m)) (C : Str) (args : List V) : ROk (vMake meth C args) args (fun ps M => (g C "__init__" (.loc M.length :: ps) (M ++ [.ins C []])).bind fun v M1 => if v = .non then .ok (.loc M.length) M1 else .bad) := by
  intro M Sh ps G rv ok
  have okN : Ok (M ++ [.ins C []]) Sh (fun n => n = M.length ∨ G n) := (Stp.new ok (.ins C []) (G := fun n => n = M.length ∨ G n) (fun n h => h.elim .inr .inl)).ok
  have rN : RVs (M ++ [.ins C []]) Sh (.ins C [] [] :: args) (.loc M.length :: ps) (fun n => n = M.length ∨ G n) := by
    refine ⟨.loc M.length, ps, fun n => n = M.length, G, rfl, ⟨M.length, [], fun _ => False, rfl, by simp [objOf], ⟨rfl, List.nodup_nil⟩, ⟨rfl, fun _ h => h⟩, fun h => h, fun m => ⟨.inl, fun h => h.elim id False.elim⟩⟩, rv.mono (app_kept ok.sl) (fun n h => List.getElem?_append_left (ok.lt n h)), ?_, fun _ => Iff.rfl⟩
    rintro n rfl h
    have := ok.lt _ h; omega
  have q := h C "__init__" (.ins C [] [] :: args) _ Sh _ _ rN okN
  have sN : Stp M Sh G (M ++ [.ins C []]) Sh (fun n => n = M.length ∨ G n) := Stp.new ok (.ins C []) fun n h => h.elim .inr .inl
  simp only [vMake]
  cases hr : meth C "__init__" (.ins C [] [] :: args) with
  | bad => trivial
  | err D fs vs outs =>
    rw [hr] at q
    obtain ⟨qs, M', Sh', B, e, l, r, ro, s⟩ := q
    match outs, ro with
    | [], ro => trivial
    | o :: outs, ⟨p', qs', A1, B1, e1, r1, r2, d1, f1⟩ =>
      cases e1
      rw [e]
      exact ⟨qs, M', Sh', B1, rfl, l, r, r2, (sN.seq s (fun _ h => h) (G := fun _ => False) (C := B) (fun _ h => h.elim) (fun _ h => .inr h)).drop fun n h => (f1 n).2 (.inr h)⟩
  | ok v outs =>
    rw [hr] at q
    obtain ⟨p, M', Sh', A, B, e, r, ro, di, s⟩ := q
    split
    · rename_i v' os hh
      split at hh
      · rename_i D fs vs os' heq
        cases heq
        cases hh
        obtain ⟨p', qs', A1, B1, e1, r1, r2, d1, f1⟩ := ro
        cases e1
        rw [e]
        simp only [Res.bind_ok, show p = .non from r.1, if_true]
        exact ⟨.loc M.length, M', Sh', A1, B1, rfl, r1, r2, d1, (sN.seq s (fun _ h => h) (G := fun _ => False) (C := fun n => A n ∨ B n) (fun _ h => h.elim) (fun _ h => .inr h)).drop fun n h => .inr ((f1 n).2 h)⟩
      · rename_i heq; cases heq
      · cases hh
    · rename_i hh
      split at hh
      · cases hh
      · rename_i heq; cases heq
      · cases hh
    · trivial
/-- the constants -/
def gloOk (T : VTbl) : Prop := ∀ x i, T.glo.lookup x = some i → ∃ p, T.T.glo.lookup x = some p ∧ ∀ M Sh, RI M Sh i p
theorem lnk {T : VTbl} {wf : Nat} (hg : gloOk T) : ∀ k, Lnk (vctx T wf k) (ctx T.T wf k)
  | 0 => ⟨fun _ _ _ _ _ _ _ _ => trivial, fun _ _ _ _ _ _ _ _ => trivial, fun _ _ _ _ _ _ _ _ _ => trivial, hg, rfl, rfl, rfl⟩
  | k + 1 => by
    have ih := lnk (wf := wf) hg k
    have hm : ∀ C m args, ROk ((vctx T wf (k + 1)).meth C m args) args ((ctx T.T wf (k + 1)).meth C m) := by
      intro C m args
      simp only [vctx, ctx]
      split
      · rename_i fn hf
        intro M Sh ps G rv ok
        have := vRun_ok ih fn (T.ioMOf C m) args M Sh ps G rv ok
        simp only [hf]
        exact this
      · exact fun _ _ _ _ _ _ => trivial
    refine ⟨?_, ?_, hm, hg, rfl, rfl, rfl⟩
    · intro f args
      simp only [vctx, ctx]
      split
      · rename_i fn hf
        intro M Sh ps G rv ok
        have := vRun_ok ih fn (T.ioOf f) args M Sh ps G rv ok
        simp only [hf]
        exact this
      · exact fun _ _ _ _ _ _ => trivial
    · intro C args
      simp only [vctx, ctx]
      split
      · rename_i fn hf
        intro M Sh ps G rv ok
        have := vMake_ok ih.meth C args M Sh ps G rv ok
        simp only [hf]
        exact this
      · exact fun _ _ _ _ _ _ => trivial
/-- the end: a law -/
theorem law_of {T : VTbl} {wf k : Nat} (hg : gloOk T) {ns : List Int} {outs : List V} (h : (vctx T wf k).call "law" [.im (.fl ns)] = .ok (.im (.bl true)) outs) : ∃ M', calls T.T wf k "law" [.fl ns] [] = .ok (.bl true) M' := by
  have q := (lnk (wf := wf) hg k).call "law" [.im (.fl ns)] [] (fun _ => False) [.fl ns] (fun _ => False) ⟨.fl ns, [], fun _ => False, fun _ => False, rfl, ⟨rfl, fun _ h => h⟩, ⟨rfl, fun _ h => h⟩, fun _ h => h.elim, fun n => ⟨.inl, fun h => h.elim id id⟩⟩ ⟨fun _ h => h.elim, fun _ h => h.elim, fun _ h => h.elim⟩
  rw [h] at q
  obtain ⟨p, M', Sh', A, B, e, r, _⟩ := q
  refine ⟨M', ?_⟩
  rw [show calls T.T wf k "law" [.fl ns] [] = (ctx T.T wf k).call "law" [.fl ns] [] from rfl, e, show p = _ from r.1]
end Wn
end
section
/-! Vs11: the constants. -/
namespace Wn
open PySem
mutual
def pureEq : I → PV → Bool
  | .int i, p => decide (p = .int i)
  | .str x, p => decide (p = .str x)
  | .bl b, p => decide (p = .bl b)
  | .tup xs, p => (match p with
    | .tup ps => pureEqs xs ps
    | _ => false)
  | _, _ => false
def pureEqs : List I → List PV → Bool
  | [], ps => ps.isEmpty
  | x :: xs, ps => (match ps with
    | p :: qs => pureEq x p && pureEqs xs qs
    | [] => false)
end
mutual
theorem pureEq_ok {M : Store} {Sh : FP} : ∀ {x : I} {p : PV}, pureEq x p = true → RI M Sh x p
  | .int i, p, h => by simp only [pureEq, decide_eq_true_eq] at h; exact h
  | .str i, p, h => by simp only [pureEq, decide_eq_true_eq] at h; exact h
  | .bl i, p, h => by simp only [pureEq, decide_eq_true_eq] at h; exact h
  | .tup xs, p, h => by
    simp only [pureEq] at h
    split at h
    · exact ⟨_, rfl, pureEqs_ok h⟩
    · cases h
  | .non, _, h => by cases h
  | .fl _, _, h => by cases h
  | .lst _, _, h => by cases h
  | .dic _ _, _, h => by cases h
  | .ins _ _ _, _, h => by cases h
  | .exc _ _ _, _, h => by cases h
theorem pureEqs_ok {M : Store} {Sh : FP} : ∀ {xs : List I} {ps : List PV}, pureEqs xs ps = true → RIs M Sh xs ps
  | [], ps, h => by simp only [pureEqs, List.isEmpty_iff] at h; exact h
  | x :: xs, ps, h => by
    simp only [pureEqs] at h
    split at h
    · simp only [Bool.and_eq_true] at h
      exact ⟨_, _, rfl, pureEq_ok h.1, pureEqs_ok h.2⟩
    · cases h
end
def gloB : List (Str × I) → List (Str × PV) → Bool
  | [], [] => true
  | (x, i) :: a, (y, p) :: b => decide (x = y) && pureEq i p && gloB a b
  | _, _ => false
theorem gloB_ok : ∀ {a : List (Str × I)} {b : List (Str × PV)}, gloB a b = true → ∀ x i, a.lookup x = some i → ∃ p, b.lookup x = some p ∧ ∀ M Sh, RI M Sh i p
  | [], [], _, x, i, h => by cases h
  | [], _ :: _, h, _, _, _ => by cases h
  | _ :: _, [], h, _, _, _ => by cases h
  | (y, j) :: a, (z, p) :: b, h, x, i, g => by
    simp only [gloB, Bool.and_eq_true, decide_eq_true_eq] at h
    obtain ⟨⟨rfl, h2⟩, h3⟩ := h
    simp only [List.lookup] at g ⊢
    cases hx : x == y with
    | true => simp only [hx] at g ⊢; cases g; exact ⟨p, rfl, fun M Sh => pureEq_ok h2⟩
    | false => simp only [hx] at g ⊢; exact gloB_ok h3 x i g
end Wn
end
section
/-! W0: how programs over values are walked: rules for simp. What comes behind is kept in names of its own, so that simp does not go into it. -/
namespace Wn
open PySem

@[simp] theorem ofString_inj (a b : String) : (Str.ofString a = Str.ofString b) = (a = b) := by
  refine propext ⟨fun h => ?_, fun h => by rw [h]⟩
  rw [Str.ofString_eq_toList, Str.ofString_eq_toList] at h
  have h1 : (a.toList.map Char.toNat).toArray = (b.toList.map Char.toNat).toArray := congrArg Str.cps h
  have h2 : a.toList.map Char.toNat = b.toList.map Char.toNat := by simpa using h1
  have h3 : a.toList = b.toList := by
    refine List.map_inj_right (fun x y e => ?_) |>.1 h2
    exact Char.ext (UInt32.toNat_inj.1 e)
  exact String.toList_inj.1 h3
@[simp] theorem ofString_beq (a b : String) : (Str.ofString a == Str.ofString b) = (a == b) := by
  rw [Bool.eq_iff_iff]; simp only [beq_iff_eq, ofString_inj]

/-- a list of one's own, of what stands still -/
@[simp] theorem flat_im (x : I) : V.flat (.im x) = some x := id rfl
theorem ims_map (xs : List I) : ims (xs.map .im) = some xs := by
  induction xs with
  | nil => rfl
  | cons x xs ih => simp only [List.map_cons, ims, ih, Option.map_some]
theorem freezes_map (xs : List I) : V.freezes (xs.map .im) = some xs := by
  induction xs with
  | nil => simp [V.freezes]
  | cons x xs ih => simp only [List.map_cons, V.freezes, V.freeze, ih, Option.map_some]
@[simp] theorem flat_lstV (xs : List I) : (lstV xs).flat = some (.lst xs) := by simp [lstV, V.flat, ims_map, Knd.i]
@[simp] theorem freeze_lstV (xs : List I) : (lstV xs).freeze = some (.lst xs) := by simp [lstV, V.freeze, freezes_map, Knd.i]
@[simp] theorem flat_dicV (ks xs : List I) : (dicV (ks, xs)).flat = some (.dic ks xs) := by simp [dicV, V.flat, ims_map, Knd.i]
@[simp] theorem freeze_dicV (ks xs : List I) : (dicV (ks, xs)).freeze = some (.dic ks xs) := by simp [dicV, V.freeze, freezes_map, Knd.i]
@[simp] theorem freeze_im (x : I) : V.freeze (.im x) = some x := by simp [V.freeze]
/-- a list's display -/
def mkL (vs : List V) : V := .lst vs
def consL (a : I) : V → V
  | .obj .lst vs => .lst (.im a :: vs)
  | v => v
@[simp] theorem mkL_nil : mkL [] = lstV [] := id rfl
@[simp] theorem mkL_cons (a : I) (vs : List V) : mkL (.im a :: vs) = consL a (mkL vs) := id rfl
@[simp] theorem consL_lstV (a : I) (xs : List I) : consL a (lstV xs) = lstV (a :: xs) := id rfl

/-! ### places -/
@[simp] theorem rd_im {E : VE} {i : Nat} {x : I} (h : E[i]? = some (.im x)) : rd E i [] = .ok (.im x) E := by simp [rd, peekE, h, V.peek]
def rdK (E : VE) (i : Nat) (js : List Nat) : Option V → R V
  | some (.im x) => .ok (.im x) E
  | some v => (match v.freeze with
    | some x => .ok (.im x) (pokeE E i js (.im x))
    | none => .bad)
  | none => .bad
def rdF (E : VE) (i : Nat) (js : List Nat) : Option I → R V
  | some x => .ok (.im x) (pokeE E i js (.im x))
  | none => .bad
theorem rd_eq (E : VE) (i : Nat) (js : List Nat) : rd E i js = rdK E i js (peekE E i js) := by
  simp only [rd, rdK] <;> (rcases peekE E i js with _ | v <;> first | rfl | (cases v <;> rfl))
@[simp] theorem rdK_im (E : VE) (i : Nat) (js : List Nat) (x : I) : rdK E i js (some (.im x)) = .ok (.im x) E := id rfl
@[simp] theorem rdK_obj (E : VE) (i : Nat) (js : List Nat) (k : Knd) (vs : List V) : rdK E i js (some (.obj k vs)) = rdF E i js (V.obj k vs).freeze := id rfl
@[simp] theorem rdK_lstV (E : VE) (i : Nat) (js : List Nat) (xs : List I) : rdK E i js (some (lstV xs)) = .ok (.im (.lst xs)) (pokeE E i js (.im (.lst xs))) := by
  have : rdK E i js (some (lstV xs)) = rdF E i js (lstV xs).freeze := rfl
  rw [this, freeze_lstV]; rfl
@[simp] theorem rdK_dicV (E : VE) (i : Nat) (js : List Nat) (ks xs : List I) : rdK E i js (some (dicV (ks, xs))) = .ok (.im (.dic ks xs)) (pokeE E i js (.im (.dic ks xs))) := by
  have : rdK E i js (some (dicV (ks, xs))) = rdF E i js (dicV (ks, xs)).freeze := rfl
  rw [this, freeze_dicV]; rfl
@[simp] theorem rdK_tup (E : VE) (i : Nat) (js : List Nat) (vs : List V) : rdK E i js (some (.tup vs)) = rdF E i js (V.tup vs).freeze := id rfl
@[simp] theorem rdF_some (E : VE) (i : Nat) (js : List Nat) (x : I) : rdF E i js (some x) = .ok (.im x) (pokeE E i js (.im x)) := id rfl
def takeK (E : VE) (i : Nat) (js : List Nat) : Option V → R V
  | some (.im x) => .ok (.im x) E
  | some .gone => .bad
  | some v => .ok v (pokeE E i js .gone)
  | none => .bad
theorem take_eq (E : VE) (i : Nat) (js : List Nat) : take E i js = takeK E i js (peekE E i js) := by
  simp only [take, takeK] <;> (rcases peekE E i js with _ | v <;> first | rfl | (cases v <;> rfl))
@[simp] theorem takeK_im (E : VE) (i : Nat) (js : List Nat) (x : I) : takeK E i js (some (.im x)) = .ok (.im x) E := id rfl
@[simp] theorem takeK_obj (E : VE) (i : Nat) (js : List Nat) (k : Knd) (vs : List V) : takeK E i js (some (.obj k vs)) = .ok (.obj k vs) (pokeE E i js .gone) := id rfl
@[simp] theorem takeK_lstV (E : VE) (i : Nat) (js : List Nat) (xs : List I) : takeK E i js (some (lstV xs)) = .ok (lstV xs) (pokeE E i js .gone) := id rfl
@[simp] theorem takeK_dicV (E : VE) (i : Nat) (js : List Nat) (d : List I × List I) : takeK E i js (some (dicV d)) = .ok (dicV d) (pokeE E i js .gone) := id rfl
@[simp] theorem takeK_tup (E : VE) (i : Nat) (js : List Nat) (vs : List V) : takeK E i js (some (.tup vs)) = .ok (.tup vs) (pokeE E i js .gone) := id rfl
@[simp] theorem peekE_nil (E : VE) (i : Nat) : peekE E i [] = E[i]? := by simp only [peekE]; cases E[i]? <;> rfl
@[simp] theorem pokeE_nil (E : VE) (i : Nat) (w : V) : pokeE E i [] w = E.set i w := by
  simp only [pokeE]
  cases h : E[i]? with
  | none => simp at h; rw [List.set_eq_of_length_le h]
  | some v => rfl
def peekV (js : List Nat) : Option V → Option V
  | some v => v.peek js
  | none => none
@[simp] theorem peekV_some (js : List Nat) (v : V) : peekV js (some v) = v.peek js := id rfl
@[simp] theorem peekE_cons (E : VE) (i j : Nat) (js : List Nat) : peekE E i (j :: js) = peekV (j :: js) E[i]? := id rfl
@[simp] theorem peek_nil (v : V) : v.peek [] = some v := id rfl
@[simp] theorem peek_obj (k : Knd) (vs : List V) (j : Nat) (js : List Nat) : (V.obj k vs).peek (j :: js) = peekV js vs[j]? := by
  simp only [V.peek, V.kids]; cases vs[j]? <;> rfl
@[simp] theorem peek_tup (vs : List V) (j : Nat) (js : List Nat) : (V.tup vs).peek (j :: js) = peekV js vs[j]? := by
  simp only [V.peek, V.kids]; cases vs[j]? <;> rfl
@[simp] theorem peek_lstV (xs : List I) (j : Nat) : (lstV xs).peek [j] = (xs[j]?).map .im := by
  simp only [lstV, V.peek, V.kids, List.getElem?_map]
  cases xs[j]? <;> rfl
def pokeV (E : VE) (i : Nat) (js : List Nat) (w : V) : Option V → VE
  | some v => E.set i (v.poke w js)
  | none => E
@[simp] theorem pokeE_cons (E : VE) (i j : Nat) (js : List Nat) (w : V) : pokeE E i (j :: js) w = pokeV E i (j :: js) w E[i]? := id rfl
@[simp] theorem pokeV_some (E : VE) (i : Nat) (js : List Nat) (w v : V) : pokeV E i js w (some v) = E.set i (v.poke w js) := id rfl
@[simp] theorem poke_nil (v w : V) : v.poke w [] = w := id rfl
def pokeO (k : Knd) (vs : List V) (j : Nat) (w : V) (js : List Nat) : Option V → V
  | some u => .obj k (vs.set j (u.poke w js))
  | none => .obj k vs
@[simp] theorem poke_obj (k : Knd) (vs : List V) (j : Nat) (js : List Nat) (w : V) : (V.obj k vs).poke w (j :: js) = pokeO k vs j w js vs[j]? := by
  simp only [V.poke, V.kids]; cases vs[j]? <;> rfl
@[simp] theorem pokeO_some (k : Knd) (vs : List V) (j : Nat) (w u : V) (js : List Nat) : pokeO k vs j w js (some u) = .obj k (vs.set j (u.poke w js)) := id rfl
def pokeT (vs : List V) (j : Nat) (w : V) (js : List Nat) : Option V → V
  | some u => .tup (vs.set j (u.poke w js))
  | none => .tup vs
@[simp] theorem poke_tup (vs : List V) (j : Nat) (js : List Nat) (w : V) : (V.tup vs).poke w (j :: js) = pokeT vs j w js vs[j]? := by
  simp only [V.poke, V.kids]; cases vs[j]? <;> rfl
@[simp] theorem pokeT_some (vs : List V) (j : Nat) (w u : V) (js : List Nat) : pokeT vs j w js (some u) = .tup (vs.set j (u.poke w js)) := id rfl
/-! an index that needs nothing done -/
def sVar : Option V → Option I
  | some (.im x) => some x
  | _ => none
@[simp] theorem sEv_var (c : VC) (E : VE) (i : Nat) : sEv c E (.var i) = sVar E[i]? := by
  simp only [sEv, sVar] <;> rfl
@[simp] theorem sVar_im (x : I) : sVar (some (.im x)) = some x := id rfl
@[simp] theorem sVar_lstV (xs : List I) : sVar (some (lstV xs)) = none := id rfl
@[simp] theorem sVar_obj (k : Knd) (xs : List V) : sVar (some (.obj k xs)) = none := id rfl
@[simp] theorem sVar_tup (xs : List V) : sVar (some (.tup xs)) = none := id rfl
@[simp] theorem sEv_int (c : VC) (E : VE) (i : Int) : sEv c E (.int i) = some (.int i) := id rfl
@[simp] theorem sEv_str (c : VC) (E : VE) (i : Str) : sEv c E (.str i) = some (.str i) := id rfl
@[simp] theorem sEv_glo (c : VC) (E : VE) (i : Str) : sEv c E (.glo i) = c.glo i := id rfl
def sNeg : Option I → Option I
  | some (.int i) => some (.int (-i))
  | _ => none
@[simp] theorem sNeg_int (i : Int) : sNeg (some (.int i)) = some (.int (-i)) := id rfl
@[simp] theorem sEv_neg (c : VC) (E : VE) (a : Ex) : sEv c E (.neg a) = sNeg (sEv c E a) := by simp only [sEv, sNeg] <;> rfl
def sSub : Option I → Option I → Option I
  | some (.int i), some (.int j) => some (.int (i - j))
  | _, _ => none
def sAdd : Option I → Option I → Option I
  | some (.int i), some (.int j) => some (.int (i + j))
  | _, _ => none
@[simp] theorem sSub_int (i j : Int) : sSub (some (.int i)) (some (.int j)) = some (.int (i - j)) := id rfl
@[simp] theorem sAdd_int (i j : Int) : sAdd (some (.int i)) (some (.int j)) = some (.int (i + j)) := id rfl
@[simp] theorem sEv_sub (c : VC) (E : VE) (a b : Ex) : sEv c E (.bin .sub a b) = sSub (sEv c E a) (sEv c E b) := by simp only [sEv, sSub] <;> rfl
@[simp] theorem sEv_add (c : VC) (E : VE) (a b : Ex) : sEv c E (.bin .add a b) = sAdd (sEv c E a) (sEv c E b) := by simp only [sEv, sAdd] <;> rfl
def sIdx : Option I → Option I → Option I
  | some x, some y => iIdx x y
  | _, _ => none
@[simp] theorem sIdx_some (x y : I) : sIdx (some x) (some y) = iIdx x y := id rfl
@[simp] theorem sIdx_none (y : Option I) : sIdx none y = none := id rfl
@[simp] theorem sIdx_none' (y : I) : sIdx (some y) none = none := id rfl
@[simp] theorem sEv_idx (c : VC) (E : VE) (a b : Ex) : sEv c E (.idx a b) = sIdx (sEv c E a) (sEv c E b) := by simp only [sEv, sIdx] <;> rfl
@[simp] theorem sEv_call (c : VC) (E : VE) (f : Str) (es : Exs) : sEv c E (.call f es) = none := id rfl
@[simp] theorem sEv_bi (c : VC) (E : VE) (f : Bi) (es : Exs) : sEv c E (.bi f es) = none := id rfl
@[simp] theorem sEv_bm (c : VC) (E : VE) (m : Bm) (o : Ex) (es : Exs) : sEv c E (.bm m o es) = none := id rfl
@[simp] theorem sEv_fld (c : VC) (E : VE) (a : Ex) (f : Str) : sEv c E (.fld a f) = none := id rfl
@[simp] theorem sEv_meth (c : VC) (E : VE) (o : Ex) (m : Str) (es : Exs) : sEv c E (.meth o m es) = none := id rfl
@[simp] theorem sEv_slice (c : VC) (E : VE) (a : Ex) (lo hi : Ox) : sEv c E (.slice a lo hi) = none := id rfl
@[simp] theorem sEv_tup (c : VC) (E : VE) (es : Exs) : sEv c E (.tup es) = none := id rfl
@[simp] theorem sEv_ite (c : VC) (E : VE) (t a b : Ex) : sEv c E (.ite t a b) = none := id rfl
@[simp] theorem sEv_mod (c : VC) (E : VE) (a b : Ex) : sEv c E (.bin .mod a b) = none := id rfl
@[simp] theorem sEv_mul (c : VC) (E : VE) (a b : Ex) : sEv c E (.bin .mul a b) = none := id rfl
@[simp] theorem sEv_fdiv (c : VC) (E : VE) (a b : Ex) : sEv c E (.bin .fdiv a b) = none := id rfl
@[simp] theorem sEv_lst (c : VC) (E : VE) (es : Exs) : sEv c E (.lst es) = none := id rfl
@[simp] theorem sEv_dic (c : VC) (E : VE) (es : Exs) : sEv c E (.dic es) = none := id rfl
@[simp] theorem sEv_bl (c : VC) (E : VE) (b : Bool) : sEv c E (.bl b) = none := id rfl
@[simp] theorem sEv_non (c : VC) (E : VE) : sEv c E .non = none := id rfl
@[simp] theorem sEv_cmp (c : VC) (E : VE) (o : COp) (a b : Ex) : sEv c E (.cmp o a b) = none := id rfl
@[simp] theorem sEv_lc (c : VC) (E : VE) (a : Ex) (g : Tg) (i : Ix) (o : Ox) : sEv c E (.lc a g i o) = none := id rfl
@[simp] theorem sEv_rev (c : VC) (E : VE) (a : Ex) : sEv c E (.rev a) = none := id rfl
@[simp] theorem sEv_mk (c : VC) (E : VE) (m : Str) (es : Exs) : sEv c E (.mk m es) = none := id rfl
@[simp] theorem sEv_and (c : VC) (E : VE) (a b : Ex) : sEv c E (.and_ a b) = none := id rfl
@[simp] theorem sEv_or (c : VC) (E : VE) (a b : Ex) : sEv c E (.or_ a b) = none := id rfl
@[simp] theorem sEv_not (c : VC) (E : VE) (a : Ex) : sEv c E (.not_ a) = none := id rfl
@[simp] theorem sEv_mov (c : VC) (E : VE) (a : Ex) : sEv c E (.mov a) = none := id rfl
@[simp] theorem sEv_pow (c : VC) (E : VE) (a b : Ex) : sEv c E (.bin .pow a b) = none := id rfl
/-! the place of an expression -/
def plF (f : Str) (i : Nat) (js : List Nat) : Option V → Option (Nat × List Nat)
  | some (.obj (.ins _ fs) _) => (fldIx f fs).map fun j => (i, js ++ [j])
  | _ => none
def plFld (E : VE) (f : Str) : Option (Nat × List Nat) → Option (Nat × List Nat)
  | some (i, js) => plF f i js (peekE E i js)
  | none => none
def plI (i : Nat) (js : List Nat) (k : I) : Option V → Option (Nat × List Nat)
  | some v => (stepIx v k).map fun j => (i, js ++ [j])
  | none => none
def plIdx (E : VE) : Option (Nat × List Nat) → Option I → Option (Nat × List Nat)
  | some (i, js), some k => plI i js k (peekE E i js)
  | _, _ => none
@[simp] theorem plc_var (c : VC) (E : VE) (i : Nat) : plc c E (.var i) = some (i, []) := id rfl
@[simp] theorem plc_fld (c : VC) (E : VE) (a : Ex) (f : Str) : plc c E (.fld a f) = plFld E f (plc c E a) := by
  simp only [plc, plFld]
  cases plc c E a with
  | none => rfl
  | some p =>
    obtain ⟨i, js⟩ := p
    simp only [plF] <;> rfl
@[simp] theorem plFld_some (E : VE) (f : Str) (i : Nat) (js : List Nat) : plFld E f (some (i, js)) = plF f i js (peekE E i js) := id rfl
@[simp] theorem plFld_none (E : VE) (f : Str) : plFld E f none = none := id rfl
@[simp] theorem plF_ins (f : Str) (i : Nat) (js : List Nat) (C : Str) (fs : List Str) (vs : List V) : plF f i js (some (.obj (.ins C fs) vs)) = (fldIx f fs).map fun j => (i, js ++ [j]) := id rfl
@[simp] theorem plF_im (f : Str) (i : Nat) (js : List Nat) (x : I) : plF f i js (some (.im x)) = none := id rfl
@[simp] theorem plc_idx (c : VC) (E : VE) (a b : Ex) : plc c E (.idx a b) = plIdx E (plc c E a) (sEv c E b) := by
  simp only [plc, plIdx]
  cases plc c E a with
  | none => rfl
  | some p =>
    obtain ⟨i, js⟩ := p
    cases sEv c E b with
    | none => rfl
    | some k => simp only [plI] <;> rfl
@[simp] theorem plIdx_none (E : VE) (k : Option I) : plIdx E none k = none := id rfl
@[simp] theorem plIdx_none' (E : VE) (p : Nat × List Nat) : plIdx E (some p) none = none := id rfl
@[simp] theorem plIdx_some (E : VE) (i : Nat) (js : List Nat) (k : I) : plIdx E (some (i, js)) (some k) = plI i js k (peekE E i js) := id rfl
@[simp] theorem plI_im (i : Nat) (js : List Nat) (k x : I) : plI i js k (some (.im x)) = none := id rfl
@[simp] theorem plI_obj (i : Nat) (js : List Nat) (k : I) (n : Knd) (vs : List V) : plI i js k (some (.obj n vs)) = (stepIx (.obj n vs) k).map fun j => (i, js ++ [j]) := id rfl
@[simp] theorem plI_lstV (i : Nat) (js : List Nat) (k : Int) (xs : List I) : plI i js (.int k) (some (lstV xs)) = (ixOf xs.length k).map fun j => (i, js ++ [j]) := by
  simp [plI, lstV, stepIx]
@[simp] theorem plI_dicV (i : Nat) (js : List Nat) (k : I) (ks xs : List I) (h : iKey k = true) : plI i js k (some (dicV (ks, xs))) = (keyIx k ks).map fun j => (i, js ++ [j]) := by
  simp [plI, dicV, stepIx, h]
@[simp] theorem peek_dicV (ks xs : List I) (j : Nat) : (dicV (ks, xs)).peek [j] = (xs[j]?).map .im := by
  simp only [dicV, V.peek, V.kids, List.getElem?_map]
  cases xs[j]? <;> rfl
@[simp] theorem plI_tup (i : Nat) (js : List Nat) (k : I) (vs : List V) : plI i js k (some (.tup vs)) = (stepIx (.tup vs) k).map fun j => (i, js ++ [j]) := id rfl
theorem plc_no (c : VC) (E : VE) (e : Ex) (h : (match e with | .var _ => false | .fld _ _ => false | .idx _ _ => false | _ => true) = true) : plc c E e = none := by
  cases e <;> first | rfl | (cases h; done)
@[simp] theorem plc_call (c : VC) (E : VE) (f : Str) (es : Exs) : plc c E (.call f es) = none := id rfl
@[simp] theorem plc_bi (c : VC) (E : VE) (f : Bi) (es : Exs) : plc c E (.bi f es) = none := id rfl
@[simp] theorem plc_bm (c : VC) (E : VE) (m : Bm) (o : Ex) (es : Exs) : plc c E (.bm m o es) = none := id rfl
@[simp] theorem plc_meth (c : VC) (E : VE) (o : Ex) (m : Str) (es : Exs) : plc c E (.meth o m es) = none := id rfl
@[simp] theorem plc_mk (c : VC) (E : VE) (m : Str) (es : Exs) : plc c E (.mk m es) = none := id rfl
@[simp] theorem plc_lst (c : VC) (E : VE) (es : Exs) : plc c E (.lst es) = none := id rfl
@[simp] theorem plc_tup (c : VC) (E : VE) (es : Exs) : plc c E (.tup es) = none := id rfl
@[simp] theorem plc_dic (c : VC) (E : VE) (es : Exs) : plc c E (.dic es) = none := id rfl
@[simp] theorem plc_int (c : VC) (E : VE) (i : Int) : plc c E (.int i) = none := id rfl
@[simp] theorem plc_str (c : VC) (E : VE) (i : Str) : plc c E (.str i) = none := id rfl
@[simp] theorem plc_bl (c : VC) (E : VE) (i : Bool) : plc c E (.bl i) = none := id rfl
@[simp] theorem plc_non (c : VC) (E : VE) : plc c E .non = none := id rfl
@[simp] theorem plc_glo (c : VC) (E : VE) (x : Str) : plc c E (.glo x) = none := id rfl
@[simp] theorem plc_bin (c : VC) (E : VE) (o : BOp) (a b : Ex) : plc c E (.bin o a b) = none := id rfl
@[simp] theorem plc_neg (c : VC) (E : VE) (a : Ex) : plc c E (.neg a) = none := id rfl
@[simp] theorem plc_cmp (c : VC) (E : VE) (o : COp) (a b : Ex) : plc c E (.cmp o a b) = none := id rfl
@[simp] theorem plc_slice (c : VC) (E : VE) (a : Ex) (l h : Ox) : plc c E (.slice a l h) = none := id rfl
@[simp] theorem plc_rev (c : VC) (E : VE) (a : Ex) : plc c E (.rev a) = none := id rfl
@[simp] theorem plc_lc (c : VC) (E : VE) (a : Ex) (g : Tg) (i : Ix) (o : Ox) : plc c E (.lc a g i o) = none := id rfl
@[simp] theorem plc_ite (c : VC) (E : VE) (t a b : Ex) : plc c E (.ite t a b) = none := id rfl
/-! look -/
def viewA (E : VE) (st : Bool) : Option V → R V
  | some (.im x) => .ok (.im x) E
  | some .gone => .bad
  | some v => if st then .ok v E else .bad
  | none => .bad
def viewK (c : VC) (a : Ex) (st : Bool) (E : VE) : Option (Nat × List Nat) → R V
  | some (i, js) => viewA E st (peekE E i js)
  | none => vE c a E
theorem view_eq (c : VC) (a : Ex) (st : Bool) (E : VE) (pl : Option (Nat × List Nat)) : view pl st E (vE c a E) = viewK c a st E pl := by
  simp only [view, viewK]
  cases pl with
  | none => rfl
  | some p =>
    obtain ⟨i, js⟩ := p
    simp only [viewA] <;> (rcases peekE E i js with _ | v <;> first | rfl | (cases v <;> rfl))
@[simp] theorem viewK_some (c : VC) (a : Ex) (st : Bool) (E : VE) (i : Nat) (js : List Nat) : viewK c a st E (some (i, js)) = viewA E st (peekE E i js) := id rfl
@[simp] theorem viewK_none (c : VC) (a : Ex) (st : Bool) (E : VE) : viewK c a st E none = vE c a E := id rfl
@[simp] theorem viewA_im (E : VE) (st : Bool) (x : I) : viewA E st (some (.im x)) = .ok (.im x) E := id rfl
@[simp] theorem viewA_obj (E : VE) (k : Knd) (vs : List V) : viewA E true (some (.obj k vs)) = .ok (.obj k vs) E := id rfl
@[simp] theorem viewA_lstV (E : VE) (xs : List I) : viewA E true (some (lstV xs)) = .ok (lstV xs) E := id rfl
@[simp] theorem viewA_dicV (E : VE) (d : List I × List I) : viewA E true (some (dicV d)) = .ok (dicV d) E := id rfl
@[simp] theorem viewA_tup (E : VE) (vs : List V) : viewA E true (some (.tup vs)) = .ok (.tup vs) E := id rfl
@[simp] theorem still_var (i : Nat) : still (.var i) = true := id rfl
@[simp] theorem still_int (i : Int) : still (.int i) = true := id rfl
@[simp] theorem still_str (i : Str) : still (.str i) = true := id rfl
@[simp] theorem still_bl (i : Bool) : still (.bl i) = true := id rfl
@[simp] theorem still_non : still .non = true := id rfl
@[simp] theorem still_glo (i : Str) : still (.glo i) = true := id rfl
@[simp] theorem still_bin (o : BOp) (a b : Ex) : still (.bin o a b) = (still a && still b) := id rfl
@[simp] theorem still_neg (a : Ex) : still (.neg a) = still a := id rfl
@[simp] theorem still_cmp (o : COp) (a b : Ex) : still (.cmp o a b) = (still a && still b) := id rfl
@[simp] theorem still_tup (es : Exs) : still (.tup es) = stills es := id rfl
@[simp] theorem still_lst (es : Exs) : still (.lst es) = stills es := id rfl
@[simp] theorem still_idx (a b : Ex) : still (.idx a b) = (still a && still b) := id rfl
@[simp] theorem still_fld (a : Ex) (f : Str) : still (.fld a f) = still a := id rfl
@[simp] theorem still_len (es : Exs) : still (.bi .len es) = stills es := id rfl
@[simp] theorem stillO_none : stillO .none = true := id rfl
@[simp] theorem stillO_some (e : Ex) : stillO (.some e) = still e := id rfl
@[simp] theorem stills_nil : stills .nil = true := id rfl
@[simp] theorem stills_cons (e : Ex) (es : Exs) : stills (.cons e es) = (still e && stills es) := id rfl

/-! ### expressions -/
@[simp] theorem liftV_some {α : Type} (E : VE) (a : α) : liftV E (some a) = .ok a E := id rfl
@[simp] theorem liftT_some (E : VE) (b : Bool) : liftT E (some b) = .ok (.im (.bl b)) E := id rfl
@[simp] theorem op1_im {α : Type} (f : I → Option α) (x : I) : op1 f (.im x) = f x := id rfl
@[simp] theorem op1_lstV {α : Type} (f : I → Option α) (xs : List I) : op1 f (lstV xs) = f (.lst xs) := by simp [op1]
@[simp] theorem op1_dicV {α : Type} (f : I → Option α) (ks xs : List I) : op1 f (dicV (ks, xs)) = f (.dic ks xs) := by simp [op1]
@[simp] theorem op2_im {α : Type} (f : I → I → Option α) (x y : I) : op2 f (.im x) (.im y) = f x y := id rfl
@[simp] theorem op2_lstV {α : Type} (f : I → I → Option α) (xs : List I) (y : I) : op2 f (lstV xs) (.im y) = f (.lst xs) y := by simp [op2]
@[simp] theorem op2_lstV' {α : Type} (f : I → I → Option α) (xs : List I) (y : I) : op2 f (.im y) (lstV xs) = f y (.lst xs) := by simp [op2]
@[simp] theorem op2_lstV2 {α : Type} (f : I → I → Option α) (xs ys : List I) : op2 f (lstV xs) (lstV ys) = f (.lst xs) (.lst ys) := by simp [op2]
@[simp] theorem op2_dicV {α : Type} (f : I → I → Option α) (ks xs : List I) (y : I) : op2 f (dicV (ks, xs)) (.im y) = f (.dic ks xs) y := by simp [op2]
@[simp] theorem op2_dicV' {α : Type} (f : I → I → Option α) (ks xs : List I) (y : I) : op2 f (.im y) (dicV (ks, xs)) = f y (.dic ks xs) := by simp [op2]
section
variable (c : VC) (E : VE)
@[simp] theorem vE_var (i : Nat) : vE c (.var i) E = rdK E i [] (peekE E i []) := (show vE c (.var i) E = rd E i [] from rfl).trans (rd_eq ..)
def movK (E : VE) : Option (Nat × List Nat) → R V
  | some (i, js) => takeK E i js (peekE E i js)
  | none => .bad
@[simp] theorem vE_mov (e : Ex) : vE c (.mov e) E = movK E (plc c E e) := by
  simp only [vE, movK]
  cases plc c E e with
  | none => rfl
  | some p => exact take_eq ..
@[simp] theorem movK_some (i : Nat) (js : List Nat) : movK E (some (i, js)) = takeK E i js (peekE E i js) := id rfl
@[simp] theorem vE_int (i : Int) : vE c (.int i) E = .ok (.im (.int i)) E := id rfl
@[simp] theorem vE_str (x : Str) : vE c (.str x) E = .ok (.im (.str x)) E := id rfl
@[simp] theorem vE_bl (b : Bool) : vE c (.bl b) E = .ok (.im (.bl b)) E := id rfl
@[simp] theorem vE_non : vE c .non E = .ok (.im .non) E := id rfl
@[simp] theorem vE_glo (x : Str) : vE c (.glo x) E = liftV E ((c.glo x).map .im) := id rfl
def binL (op : BOp) (x : V) : R V → R V := fun r => r.bind fun y E2 => liftV E2 (op2 (iBin op) x y)
def binK (op : BOp) (b : Ex) : R V → R V := fun r => r.bind fun x E1 => binL op x (vE c b E1)
@[simp] theorem vE_bin (op : BOp) (a b : Ex) : vE c (.bin op a b) E = binK c op b (vE c a E) := id rfl
@[simp] theorem binK_ok (op : BOp) (b : Ex) (x : V) : binK c op b (.ok x E) = binL op x (vE c b E) := id rfl
@[simp] theorem binL_ok (op : BOp) (x y : V) : binL op x (.ok y E) = liftV E (op2 (iBin op) x y) := id rfl
def negK : R V → R V := fun r => r.bind fun x E1 => (match x with
    | .im (.int i) => .ok (.im (.int (-i))) E1
    | _ => .bad)
@[simp] theorem vE_neg (a : Ex) : vE c (.neg a) E = negK (vE c a E) := id rfl
@[simp] theorem negK_ok (i : Int) : negK (.ok (.im (.int i)) E) = .ok (.im (.int (-i))) E := id rfl
def cmpL (op : COp) (x : V) : R V → R Bool := fun r => r.bind fun y E2 => liftV E2 (op2 (iCmp op) x y)
def cmpK (op : COp) (b : Ex) : R V → R Bool := fun r => r.bind fun x E1 => cmpL op x (viewK c b true E1 (plc c E1 b))
def tru : R Bool → R V := fun r => r.bind fun b E => .ok (.im (.bl b)) E
@[simp] theorem tru_ok (b : Bool) : tru (.ok b E) = .ok (.im (.bl b)) E := id rfl
theorem liftT_tru (o : Option Bool) : liftT E o = tru (liftV E o) := by cases o <;> rfl
@[simp] theorem vT_cmp (op : COp) (a b : Ex) : vT c (.cmp op a b) E = cmpK c op b (viewK c a (still b) E (plc c E a)) := by
  simp only [vT, cmpK, cmpL, view_eq]
@[simp] theorem vE_cmp (op : COp) (a b : Ex) : vE c (.cmp op a b) E = tru (cmpK c op b (viewK c a (still b) E (plc c E a))) := by
  simp only [vE, cmpK, cmpL, view_eq, tru]
  cases viewK c a (still b) E (plc c E a) with
  | ok x E1 =>
    simp only [R.bind]
    cases viewK c b true E1 (plc c E1 b) with
    | ok y E2 => simp only [R.bind]; exact liftT_tru E2 _
    | err => rfl
    | bad => rfl
  | err => rfl
  | bad => rfl
@[simp] theorem cmpK_ok (op : COp) (b : Ex) (x : V) : cmpK c op b (.ok x E) = cmpL op x (viewK c b true E (plc c E b)) := id rfl
@[simp] theorem cmpL_ok (op : COp) (x y : V) : cmpL op x (.ok y E) = liftV E (op2 (iCmp op) x y) := id rfl
def chN (p : COp) (y : V) : R V → R Bool := fun r => r.bind fun z E4 => liftV E4 (op2 (iCmp p) y z)
def chM (p : COp) (d : Ex) (y : V) : R Bool → R Bool := fun r => r.bind fun k E3 => if k = true then chN p y (vE c d E3) else .ok false E3
def chL (o p : COp) (d : Ex) (x : V) : R V → R Bool := fun r => r.bind fun y E2 => chM c p d y (liftV E2 (op2 (iCmp o) x y))
def chK (o p : COp) (b d : Ex) : R V → R Bool := fun r => r.bind fun x E1 => chL c o p d x (vE c b E1)
@[simp] theorem vT_chain (o p : COp) (a b d : Ex) : vT c (.chain o p a b d) E = chK c o p b d (vE c a E) := by
  simp only [vT] <;> rfl
@[simp] theorem vE_chain (o p : COp) (a b d : Ex) : vE c (.chain o p a b d) E = tru (chK c o p b d (vE c a E)) := by
  simp only [vE, chK, chL, chM, chN, tru]
  cases vE c a E with
  | ok x E1 =>
    simp only [R.bind]
    cases vE c b E1 with
    | ok y E2 =>
      simp only [R.bind]
      cases op2 (iCmp o) x y with
      | none => rfl
      | some k =>
        simp only [liftV]
        cases k with
        | false => rfl
        | true =>
          simp only [if_true]
          cases vE c d E2 with
          | ok z E3 => simp only; exact liftT_tru E3 _
          | err => rfl
          | bad => rfl
    | err => rfl
    | bad => rfl
  | err => rfl
  | bad => rfl
@[simp] theorem chK_ok (o p : COp) (b d : Ex) (x : V) : chK c o p b d (.ok x E) = chL c o p d x (vE c b E) := id rfl
@[simp] theorem chL_ok (o p : COp) (d : Ex) (x y : V) : chL c o p d x (.ok y E) = chM c p d y (liftV E (op2 (iCmp o) x y)) := id rfl
@[simp] theorem chM_ok (p : COp) (d : Ex) (y : V) (k : Bool) : chM c p d y (.ok k E) = if k = true then chN p y (vE c d E) else .ok false E := id rfl
@[simp] theorem chN_ok (p : COp) (y z : V) : chN p y (.ok z E) = liftV E (op2 (iCmp p) y z) := id rfl
def andK (b : Ex) : R V → R V := fun r => r.bind fun x E1 => (match x with
    | .im (.bl true) => vE c b E1
    | .im (.bl false) => .ok (.im (.bl false)) E1
    | _ => .bad)
def orK (b : Ex) : R V → R V := fun r => r.bind fun x E1 => (match x with
    | .im (.bl true) => .ok (.im (.bl true)) E1
    | .im (.bl false) => vE c b E1
    | _ => .bad)
def notK : R V → R V := fun r => r.bind fun x E1 => (match x with
    | .im (.bl b) => .ok (.im (.bl (!b))) E1
    | _ => .bad)
@[simp] theorem vE_and (a b : Ex) : vE c (.and_ a b) E = andK c b (vE c a E) := id rfl
@[simp] theorem vE_or (a b : Ex) : vE c (.or_ a b) E = orK c b (vE c a E) := id rfl
@[simp] theorem vE_not (a : Ex) : vE c (.not_ a) E = notK (vE c a E) := id rfl
@[simp] theorem andK_ok (b : Ex) (x : Bool) : andK c b (.ok (.im (.bl x)) E) = if x = true then vE c b E else .ok (.im (.bl false)) E := by cases x <;> rfl
@[simp] theorem orK_ok (b : Ex) (x : Bool) : orK c b (.ok (.im (.bl x)) E) = if x = true then .ok (.im (.bl true)) E else vE c b E := by cases x <;> rfl
@[simp] theorem notK_ok (x : Bool) : notK (.ok (.im (.bl x)) E) = .ok (.im (.bl (!x))) E := id rfl
def iteK (a b : Ex) : R Bool → R V := fun r => r.bind fun k E1 => if k = true then vE c a E1 else vE c b E1
@[simp] theorem vE_ite (t a b : Ex) : vE c (.ite t a b) E = iteK c a b (vT c t E) := id rfl
@[simp] theorem iteK_ok (a b : Ex) (k : Bool) : iteK c a b (.ok k E) = if k = true then vE c a E else vE c b E := id rfl
def tupK : R (List V) → R V := fun r => r.bind fun vs E1 => if vs.length ≤ big then .ok (mkTup vs) E1 else .bad
def lstK : R (List V) → R V := fun r => r.bind fun vs E1 => if vs.length ≤ big then .ok (.lst vs) E1 else .bad
@[simp] theorem vE_tup (es : Exs) : vE c (.tup es) E = tupK (vEs c es E) := id rfl
@[simp] theorem vE_lst (es : Exs) : vE c (.lst es) E = lstK (vEs c es E) := id rfl
@[simp] theorem tupK_ok (vs : List V) (h : vs.length ≤ 1000) : tupK (.ok vs E) = .ok (mkTup vs) E := if_pos (by have : big = 16777216 := rfl; omega)
@[simp] theorem lstK_ok (vs : List V) (h : vs.length ≤ 1000) : lstK (.ok vs E) = .ok (mkL vs) E := if_pos (by have : big = 16777216 := rfl; omega)
def dicP (n : Nat) (E : VE) : Option (List I × List V) → R V
  | some d => if n ≤ 30 then .ok (.dic d.1 d.2) E else .bad
  | none => .bad
def dicK : R (List V) → R V
  | .ok vs E1 => dicP vs.length E1 (vPairs ([], []) vs)
  | _ => .bad
@[simp] theorem vE_dic (es : Exs) : vE c (.dic es) E = dicK (vEs c es E) := by
  simp only [vE, dicK]
  cases vEs c es E with
  | ok vs E1 => simp only [dicP] <;> rfl
  | err => rfl
  | bad => rfl
@[simp] theorem dicK_ok (vs : List V) : dicK (.ok vs E) = dicP vs.length E (vPairs ([], []) vs) := id rfl
@[simp] theorem dicP_some (n : Nat) (d : List I × List V) (h : n ≤ 30) : dicP n E (some d) = .ok (.dic d.1 d.2) E := if_pos h
def idxL (x : V) : R V → R V := fun r => r.bind fun y E2 => liftV E2 ((op2 iIdx x y).map .im)
def idxK (b : Ex) : R V → R V := fun r => r.bind fun x E1 => idxL x (vE c b E1)
def idxW (y : V) (E : VE) : R V → R V := fun r => r.bind fun x E2 => liftV E2 ((op2 iIdx x y).map .im)
def idxV (i : Nat) : R V → R V := fun r => r.bind fun y E1 => idxW y E1 (viewA E1 true E1[i]?)
def idx1 (a b : Ex) (E : VE) : Option Nat → R V
  | some i => if isGone E i then .bad else idxV i (vE c b E)
  | none => idxK c b (viewK c a (still b) E (plc c E a))
def idx0 (a b : Ex) (E : VE) : Option (Nat × List Nat) → R V
  | some (i, js) => rdK E i js (peekE E i js)
  | none => idx1 c a b E (isVar a)
theorem view_var (E : VE) (i : Nat) : view (some (i, [])) true E (.bad : R V) = viewA E true E[i]? := by
  simp only [view, viewA, peekE_nil] <;> (rcases E[i]? with _ | v <;> first | rfl | (cases v <;> rfl))
@[simp] theorem vE_idx (a b : Ex) : vE c (.idx a b) E = idx0 c a b E (plc c E (.idx a b)) := by
  simp only [vE, idx0]
  cases plc c E (.idx a b) with
  | none =>
    simp only
    cases isVar a with
    | none => simp only [idx1, idxK, idxL, view_eq]
    | some i => simp only [idx1, idxV, idxW, view_var]
  | some p => exact rd_eq ..
@[simp] theorem idx0_some (a b : Ex) (i : Nat) (js : List Nat) : idx0 c a b E (some (i, js)) = rdK E i js (peekE E i js) := id rfl
@[simp] theorem idx0_none (a b : Ex) : idx0 c a b E none = idx1 c a b E (isVar a) := id rfl
@[simp] theorem idx1_none (a b : Ex) : idx1 c a b E none = idxK c b (viewK c a (still b) E (plc c E a)) := id rfl
@[simp] theorem idx1_some (a b : Ex) (i : Nat) (h : isGone E i = false) : idx1 c a b E (some i) = idxV i (vE c b E) := if_neg (by rw [h]; intro z; cases z)
@[simp] theorem idxV_ok (i : Nat) (y : V) : idxV i (.ok y E) = idxW y E (viewA E true E[i]?) := id rfl
@[simp] theorem idxW_ok (x y : V) (E0 : VE) : idxW y E0 (.ok x E) = liftV E ((op2 iIdx x y).map .im) := id rfl
@[simp] theorem idxK_ok (b : Ex) (x : V) : idxK c b (.ok x E) = idxL x (vE c b E) := id rfl
@[simp] theorem idxL_ok (x y : V) : idxL x (.ok y E) = liftV E ((op2 iIdx x y).map .im) := id rfl
def slM (x : V) (l : Option Int) : R (Option Int) → R V := fun r => r.bind fun h E3 => liftV E3 (op1 (fun x => iSlice x l h) x)
def slL (hi : Ox) (x : V) : R (Option Int) → R V := fun r => r.bind fun l E2 => slM x l (vO c hi E2)
def slK (lo hi : Ox) : R V → R V := fun r => r.bind fun x E1 => slL c hi x (vO c lo E1)
@[simp] theorem vE_slice (a : Ex) (lo hi : Ox) : vE c (.slice a lo hi) E = slK c lo hi (viewK c a (stillO lo && stillO hi) E (plc c E a)) := by
  simp only [vE, slK, slL, slM, view_eq]
@[simp] theorem slK_ok (lo hi : Ox) (x : V) : slK c lo hi (.ok x E) = slL c hi x (vO c lo E) := id rfl
@[simp] theorem slL_ok (hi : Ox) (x : V) (l : Option Int) : slL c hi x (.ok l E) = slM x l (vO c hi E) := id rfl
@[simp] theorem slM_ok (x : V) (l h : Option Int) : slM x l (.ok h E) = liftV E (op1 (fun x => iSlice x l h) x) := id rfl
def revK : R V → R V := fun r => r.bind fun x E1 => liftV E1 (op1 iRev x)
@[simp] theorem vE_rev (a : Ex) : vE c (.rev a) E = revK (viewK c a true E (plc c E a)) := by simp only [vE, revK, view_eq]
@[simp] theorem revK_ok (x : V) : revK (.ok x E) = liftV E (op1 iRev x) := id rfl
def fldV (f : Str) (E : VE) : V → R V
  | .im (.ins _ fs vs) => liftV E (((fldIx f fs).bind fun j => vs[j]?).map .im)
  | .im (.exc _ fs vs) => liftV E (((fldIx f fs).bind fun j => vs[j]?).map .im)
  | .obj (.ins _ fs) vs => liftV E ((fldIx f fs).bind fun j => vs[j]?)
  | _ => .bad
def fldK (f : Str) : R V → R V := fun r => r.bind fun x E1 => fldV f E1 x
def fld0 (a : Ex) (f : Str) (E : VE) : Option (Nat × List Nat) → R V
  | some (i, js) => rdK E i js (peekE E i js)
  | none => fldK f (viewK c a true E (plc c E a))
@[simp] theorem vE_fld (a : Ex) (f : Str) : vE c (.fld a f) E = fld0 c a f E (plc c E (.fld a f)) := by
  simp only [vE, fld0]
  cases plc c E (.fld a f) with
  | none =>
    simp only [fldK, view_eq]
    congr 1
  | some p => exact rd_eq ..
@[simp] theorem fld0_some (a : Ex) (f : Str) (i : Nat) (js : List Nat) : fld0 c a f E (some (i, js)) = rdK E i js (peekE E i js) := id rfl
@[simp] theorem fld0_none (a : Ex) (f : Str) : fld0 c a f E none = fldK f (viewK c a true E (plc c E a)) := id rfl
@[simp] theorem fldK_ok (f : Str) (x : V) : fldK f (.ok x E) = fldV f E x := id rfl
@[simp] theorem fldV_im (f C : Str) (fs : List Str) (vs : List I) : fldV f E (.im (.ins C fs vs)) = liftV E (((fldIx f fs).bind fun j => vs[j]?).map .im) := id rfl
@[simp] theorem fldV_exc (f C : Str) (fs : List Str) (vs : List I) : fldV f E (.im (.exc C fs vs)) = liftV E (((fldIx f fs).bind fun j => vs[j]?).map .im) := id rfl
@[simp] theorem fldV_ins (f C : Str) (fs : List Str) (vs : List V) : fldV f E (.obj (.ins C fs) vs) = liftV E ((fldIx f fs).bind fun j => vs[j]?) := id rfl
def callK (f : List V → RO) : R (List Arg) → R V := fun r => r.bind fun as E1 => doCall as E1 f
@[simp] theorem vE_call (f : Str) (es : Exs) : vE c (.call f es) E = callK (c.call f) (vAs c (c.io f) es E) := id rfl
@[simp] theorem callK_ok (f : List V → RO) (as : List Arg) : callK f (.ok as E) = doCall as E f := id rfl
@[simp] theorem vE_mk (C : Str) (es : Exs) : vE c (.mk C es) E = callK (c.make C) (vAs c (c.ioM C "__init__").tail es E) := id rfl
def mtL (C m : Str) (a : Arg) : R (List Arg) → R V := fun r => r.bind fun as E2 => doCall (a :: as) E2 (c.meth C m)
def mtC (m : Str) (es : Exs) (a : Arg) (E : VE) : Option (Str × List Str) → R V
  | some (C, fs) => if m ∈ fs then .bad else mtL c C m a (vAs c (c.ioM C m).tail es E)
  | none => .bad
def mtK (m : Str) (es : Exs) : R (Arg × V) → R V := fun r => r.bind fun ov E1 => mtC c m es ov.1 E1 (clsOf ov.2)
@[simp] theorem vE_meth (o : Ex) (m : Str) (es : Exs) : vE c (.meth o m es) E = mtK c m es (recv (isVar o) E (vE c o E)) := id rfl
@[simp] theorem mtK_ok (m : Str) (es : Exs) (a : Arg) (v : V) : mtK c m es (.ok (a, v) E) = mtC c m es a E (clsOf v) := id rfl
@[simp] theorem mtC_some (m : Str) (es : Exs) (a : Arg) (C : Str) (fs : List Str) (h : m ∉ fs) : mtC c m es a E (some (C, fs)) = mtL c C m a (vAs c (c.ioM C m).tail es E) := if_neg h
@[simp] theorem mtL_ok (C m : Str) (a : Arg) (as : List Arg) : mtL c C m a (.ok as E) = doCall (a :: as) E (c.meth C m) := id rfl
def rcvV (i : Nat) (E : VE) : Option V → R (Arg × V)
  | some .gone => .bad
  | some v => .ok (.ln i, v) E
  | none => .bad
def rcvK : R V → R (Arg × V) := fun r => r.bind fun v E1 => .ok (.v v, v) E1
@[simp] theorem recv_some (i : Nat) (r : R V) : recv (some i) E r = rcvV i E E[i]? := by
  simp only [recv, rcvV] <;> (rcases E[i]? with _ | v <;> first | rfl | (cases v <;> rfl))
@[simp] theorem recv_none (r : R V) : recv none E r = rcvK r := id rfl
@[simp] theorem rcvK_ok (v : V) : rcvK (.ok v E) = .ok (.v v, v) E := id rfl
@[simp] theorem rcvV_im (i : Nat) (x : I) : rcvV i E (some (.im x)) = .ok (.ln i, .im x) E := id rfl
@[simp] theorem rcvV_obj (i : Nat) (k : Knd) (vs : List V) : rcvV i E (some (.obj k vs)) = .ok (.ln i, .obj k vs) E := id rfl
@[simp] theorem clsOf_ins (C : Str) (fs : List Str) (vs : List V) : clsOf (.obj (.ins C fs) vs) = some (C, fs) := id rfl
@[simp] theorem clsOf_im (C : Str) (fs : List Str) (vs : List I) : clsOf (.im (.ins C fs vs)) = some (C, fs) := id rfl
@[simp] theorem isVar_var (i : Nat) : isVar (.var i) = some i := id rfl
@[simp] theorem isVar_call (f : Str) (es : Exs) : isVar (.call f es) = none := id rfl
@[simp] theorem isVar_mk (f : Str) (es : Exs) : isVar (.mk f es) = none := id rfl
@[simp] theorem isVar_fld (a : Ex) (f : Str) : isVar (.fld a f) = none := id rfl
@[simp] theorem isVar_idx (a b : Ex) : isVar (.idx a b) = none := id rfl
@[simp] theorem isVar_dic (es : Exs) : isVar (.dic es) = none := id rfl
@[simp] theorem isVar_lst (es : Exs) : isVar (.lst es) = none := id rfl
@[simp] theorem isVar_tup (es : Exs) : isVar (.tup es) = none := id rfl
@[simp] theorem isVar_int (i : Int) : isVar (.int i) = none := id rfl
@[simp] theorem isVar_str (i : Str) : isVar (.str i) = none := id rfl
@[simp] theorem isVar_bl (i : Bool) : isVar (.bl i) = none := id rfl
@[simp] theorem isVar_non : isVar .non = none := id rfl
@[simp] theorem isVar_glo (i : Str) : isVar (.glo i) = none := id rfl
@[simp] theorem isVar_bin (o : BOp) (a b : Ex) : isVar (.bin o a b) = none := id rfl
@[simp] theorem isVar_bi (o : Bi) (es : Exs) : isVar (.bi o es) = none := id rfl
@[simp] theorem isVar_lc (a : Ex) (g : Tg) (i : Ix) (o : Ox) : isVar (.lc a g i o) = none := id rfl
@[simp] theorem isVar_slice (a : Ex) (l h : Ox) : isVar (.slice a l h) = none := id rfl
@[simp] theorem isVar_meth (a : Ex) (m : Str) (es : Exs) : isVar (.meth a m es) = none := id rfl
@[simp] theorem isVar_cmp (o : COp) (a b : Ex) : isVar (.cmp o a b) = none := id rfl
@[simp] theorem isVar_ite (a b c : Ex) : isVar (.ite a b c) = none := id rfl
@[simp] theorem isVar_bm (m : Bm) (o : Ex) (es : Exs) : isVar (.bm m o es) = none := id rfl
@[simp] theorem isVar_mov (a : Ex) : isVar (.mov a) = none := id rfl
@[simp] theorem isVar_neg (a : Ex) : isVar (.neg a) = none := id rfl
@[simp] theorem isVar_rev (a : Ex) : isVar (.rev a) = none := id rfl
@[simp] theorem isVar_not (a : Ex) : isVar (.not_ a) = none := id rfl
@[simp] theorem isVar_and (a b : Ex) : isVar (.and_ a b) = none := id rfl
@[simp] theorem isVar_or (a b : Ex) : isVar (.or_ a b) = none := id rfl
@[simp] theorem isVar_isi (a : Ex) (t : Ty) : isVar (.isi a t) = none := id rfl
def biE (f : Bi) (E : VE) : List V → R V
  | [x] => liftV E (op1 (fun x => iBi f [x]) x)
  | [x, y] => liftV E (op2 (fun x y => iBi f [x, y]) x y)
  | _ => .bad
def biK (f : Bi) : R (List V) → R V := fun r => r.bind fun xs E1 => biE f E1 xs
@[simp] theorem vE_bi (f : Bi) (es : Exs) : vE c (.bi f es) E = biK f (vB c es E) := by
  simp only [vE, biK]
  cases vB c es E with
  | ok xs E1 =>
    simp only [R.bind, biE] <;> rfl
  | err => rfl
  | bad => rfl
@[simp] theorem biK_ok1 (f : Bi) (x : V) : biK f (.ok [x] E) = liftV E (op1 (fun x => iBi f [x]) x) := id rfl
@[simp] theorem biK_ok2 (f : Bi) (x y : V) : biK f (.ok [x, y] E) = liftV E (op2 (fun x y => iBi f [x, y]) x y) := id rfl
/-! methods -/
def bmR (E : VE) (i : Nat) (js : List Nat) : Option (V × V) → R V
  | some (o2, r) => .ok r (pokeE E i js o2)
  | none => .bad
def bmP (m : Bm) (vs : List V) (E : VE) (i : Nat) (js : List Nat) : Option V → R V
  | some o1 => bmR E i js (vBm m o1 vs)
  | none => .bad
def bmL (m : Bm) (i : Nat) (js : List Nat) : R (List V) → R V := fun r => r.bind fun vs E1 => bmP m vs E1 i js (peekE E1 i js)
def bmB (m : Bm) (es : Exs) (E : VE) (i : Nat) (js : List Nat) (b : Bool) : R V := if b then bmL m i js (vEs c es E) else .bad
def bmO (m : Bm) (es : Exs) (E : VE) (i : Nat) (js : List Nat) : Option V → R V
  | some o0 => bmB c m es E i js (vBmOk m o0 && (js.isEmpty || stills es))
  | none => .bad
def bmTR (E : VE) : Option (V × V) → R V
  | some (_, r) => .ok r E
  | none => .bad
def bmTL (m : Bm) (o : V) : R (List V) → R V := fun r => r.bind fun vs E1 => bmTR E1 (vBm m o vs)
def bmTB (m : Bm) (es : Exs) (o : V) (E : VE) (b : Bool) : R V := if b then bmTL m o (vEs c es E) else .bad
def bmT (m : Bm) (es : Exs) : R V → R V := fun r => r.bind fun o E1 => bmTB c m es o E1 (vBmOk m o)
def bm0 (m : Bm) (o : Ex) (es : Exs) (E : VE) : Option (Nat × List Nat) → R V
  | some (i, js) => bmO c m es E i js (peekE E i js)
  | none => bmT c m es (vE c o E)
@[simp] theorem vE_bm (m : Bm) (o : Ex) (es : Exs) : vE c (.bm m o es) E = bm0 c m o es E (plc c E o) := by
  simp only [vE, bm0]
  cases plc c E o with
  | none =>
    simp only [bmT, bmTB, bmTL]
    congr 1
  | some p =>
    obtain ⟨i, js⟩ := p
    simp only [bmO]
    cases peekE E i js with
    | none => rfl
    | some o0 =>
      simp only [bmB, bmL]
      congr 1
@[simp] theorem bm0_some (m : Bm) (o : Ex) (es : Exs) (i : Nat) (js : List Nat) : bm0 c m o es E (some (i, js)) = bmO c m es E i js (peekE E i js) := id rfl
@[simp] theorem bm0_none (m : Bm) (o : Ex) (es : Exs) : bm0 c m o es E none = bmT c m es (vE c o E) := id rfl
@[simp] theorem bmO_some (m : Bm) (es : Exs) (i : Nat) (js : List Nat) (o0 : V) : bmO c m es E i js (some o0) = bmB c m es E i js (vBmOk m o0 && (js.isEmpty || stills es)) := id rfl
@[simp] theorem bmB_true (m : Bm) (es : Exs) (i : Nat) (js : List Nat) : bmB c m es E i js true = bmL m i js (vEs c es E) := id rfl
@[simp] theorem bmL_ok (m : Bm) (i : Nat) (js : List Nat) (vs : List V) : bmL m i js (.ok vs E) = bmP m vs E i js (peekE E i js) := id rfl
@[simp] theorem bmP_some (m : Bm) (vs : List V) (i : Nat) (js : List Nat) (o : V) : bmP m vs E i js (some o) = bmR E i js (vBm m o vs) := id rfl
@[simp] theorem bmR_some (i : Nat) (js : List Nat) (o r : V) : bmR E i js (some (o, r)) = .ok r (pokeE E i js o) := id rfl
@[simp] theorem bmT_ok (m : Bm) (es : Exs) (o : V) : bmT c m es (.ok o E) = bmTB c m es o E (vBmOk m o) := id rfl
@[simp] theorem bmTB_true (m : Bm) (es : Exs) (o : V) : bmTB c m es o E true = bmTL m o (vEs c es E) := id rfl
@[simp] theorem bmTL_ok (m : Bm) (o : V) (vs : List V) : bmTL m o (.ok vs E) = bmTR E (vBm m o vs) := id rfl
@[simp] theorem bmTR_some (o r : V) : bmTR E (some (o, r)) = .ok r E := id rfl
@[simp] theorem ok_append_lstV (xs : List I) : vBmOk .append (lstV xs) = true := id rfl
@[simp] theorem ok_append_obj (xs : List V) : vBmOk .append (.obj .lst xs) = true := id rfl
@[simp] theorem ok_append_im (xs : List I) : vBmOk .append (.im (.lst xs)) = true := id rfl
@[simp] theorem ok_extend_lstV (xs : List I) : vBmOk .extend (lstV xs) = true := id rfl
@[simp] theorem ok_extend_obj (xs : List V) : vBmOk .extend (.obj .lst xs) = true := id rfl
@[simp] theorem ok_extend_im (xs : List I) : vBmOk .extend (.im (.lst xs)) = true := id rfl
@[simp] theorem ok_pop_lstV (xs : List I) : vBmOk .pop (lstV xs) = true := id rfl
@[simp] theorem ok_pop_obj (xs : List V) : vBmOk .pop (.obj .lst xs) = true := id rfl
@[simp] theorem ok_pop_im (xs : List I) : vBmOk .pop (.im (.lst xs)) = true := id rfl
@[simp] theorem ok_popAt_lstV (xs : List I) : vBmOk .popAt (lstV xs) = true := id rfl
@[simp] theorem ok_popAt_obj (xs : List V) : vBmOk .popAt (.obj .lst xs) = true := id rfl
@[simp] theorem ok_popAt_im (xs : List I) : vBmOk .popAt (.im (.lst xs)) = true := id rfl
@[simp] theorem ok_clear_lstV (xs : List I) : vBmOk .clear (lstV xs) = true := id rfl
@[simp] theorem ok_clear_obj (xs : List V) : vBmOk .clear (.obj .lst xs) = true := id rfl
@[simp] theorem ok_clear_im (xs : List I) : vBmOk .clear (.im (.lst xs)) = true := id rfl
@[simp] theorem ok_count_lstV (xs : List I) : vBmOk .count (lstV xs) = true := id rfl
@[simp] theorem ok_count_obj (xs : List V) : vBmOk .count (.obj .lst xs) = true := id rfl
@[simp] theorem ok_count_im (xs : List I) : vBmOk .count (.im (.lst xs)) = true := id rfl
@[simp] theorem ok_index_lstV (xs : List I) : vBmOk .index (lstV xs) = true := id rfl
@[simp] theorem ok_index_obj (xs : List V) : vBmOk .index (.obj .lst xs) = true := id rfl
@[simp] theorem ok_index_im (xs : List I) : vBmOk .index (.im (.lst xs)) = true := id rfl
@[simp] theorem ok_insert_lstV (xs : List I) : vBmOk .insert (lstV xs) = true := id rfl
@[simp] theorem ok_insert_obj (xs : List V) : vBmOk .insert (.obj .lst xs) = true := id rfl
@[simp] theorem ok_insert_im (xs : List I) : vBmOk .insert (.im (.lst xs)) = true := id rfl
@[simp] theorem ok_reverse_lstV (xs : List I) : vBmOk .reverse (lstV xs) = true := id rfl
@[simp] theorem ok_reverse_obj (xs : List V) : vBmOk .reverse (.obj .lst xs) = true := id rfl
@[simp] theorem ok_reverse_im (xs : List I) : vBmOk .reverse (.im (.lst xs)) = true := id rfl
@[simp] theorem ok_get_dic (ks : List I) (xs : List V) : vBmOk .get (.obj (.dic ks) xs) = true := id rfl
@[simp] theorem ok_get_dicV (d : List I × List I) : vBmOk .get (dicV d) = true := id rfl
@[simp] theorem ok_get_imd (ks xs : List I) : vBmOk .get (.im (.dic ks xs)) = true := id rfl
@[simp] theorem ok_dpop_dic (ks : List I) (xs : List V) : vBmOk .dpop (.obj (.dic ks) xs) = true := id rfl
@[simp] theorem ok_dpop_dicV (d : List I × List I) : vBmOk .dpop (dicV d) = true := id rfl
@[simp] theorem ok_dpop_imd (ks xs : List I) : vBmOk .dpop (.im (.dic ks xs)) = true := id rfl
theorem lst_app (xs : List I) (v : I) : V.lst (xs.map .im ++ [.im v]) = lstV (xs ++ [v]) := by simp [lstV]
@[simp] theorem vBm_append (xs : List I) (v : I) (h : xs.length < big) : vBm .append (lstV xs) [.im v] = some (lstV (xs ++ [v]), .im .non) := by
  simp [vBm, lstV, h]
@[simp] theorem vBm_extend (xs ys : List I) (h : xs.length + ys.length ≤ big) : vBm .extend (lstV xs) [lstV ys] = some (lstV (xs ++ ys), .im .non) := by
  have := flat_lstV ys
  simp only [lstV] at this ⊢
  simp [vBm, this, h]
@[simp] theorem vBm_extend' (xs ys : List I) (h : xs.length + ys.length ≤ big) : vBm .extend (lstV xs) [.im (.lst ys)] = some (lstV (xs ++ ys), .im .non) := by
  simp [vBm, lstV, h]
@[simp] theorem vBm_clear (xs : List I) : vBm .clear (lstV xs) [] = some (lstV [], .im .non) := id rfl
@[simp] theorem vBm_pop (xs : List I) (x : I) : vBm .pop (lstV (xs ++ [x])) [] = some (lstV xs, .im x) := by simp [vBm, lstV]
/-! types -/
def isiK (t : Ty) : R V → R Bool := fun r => r.bind fun x E1 => liftV E1 (op1 (fun x => iTy c.sub x t) x)
@[simp] theorem vT_isi (a : Ex) (t : Ty) : vT c (.isi a t) E = isiK c t (viewK c a true E (plc c E a)) := by simp only [vT, isiK, view_eq]
@[simp] theorem vE_isi (a : Ex) (t : Ty) : vE c (.isi a t) E = tru (isiK c t (viewK c a true E (plc c E a))) := by
  simp only [vE, isiK, tru, view_eq]
  cases viewK c a true E (plc c E a) with
  | ok x E1 => simp only [R.bind]; exact liftT_tru E1 _
  | err => rfl
  | bad => rfl
@[simp] theorem isiK_ok (t : Ty) (x : V) : isiK c t (.ok x E) = liftV E (op1 (fun x => iTy c.sub x t) x) := id rfl
/-! comprehensions -/
def lcE (elt : Ex) (g : Tg) (E0 : VE) : R Bool → R (Option V) := fun r => r.bind fun k E2 => if k = true then (vE c elt E2).bind fun y E3 => .ok (some y) (unTg g E0 E3) else .ok none (unTg g E0 E2)
def lcY (g : Tg) (E0 : VE) : R V → R (Option V) := fun r => r.bind fun y E3 => .ok (some y) (unTg g E0 E3)
def lcT (elt : Ex) (g : Tg) (cond : Ox) (E0 : VE) : Option VE → R (Option V)
  | some E1 => lcE c elt g E0 (vC c cond E1)
  | none => .bad
def vlcStep (elt : Ex) (g : Tg) (cond : Ox) (x : I) (E : VE) : R (Option V) := lcT c elt g cond E (if tgFree g E then vSetTg [] g (.im x) E else none)
@[simp] theorem lcE_ok (elt : Ex) (g : Tg) (E0 : VE) (k : Bool) : lcE c elt g E0 (.ok k E) = if k = true then lcY g E0 (vE c elt E) else .ok none (unTg g E0 E) := id rfl
@[simp] theorem lcY_ok (g : Tg) (E0 : VE) (v : V) : lcY g E0 (.ok v E) = .ok (some v) (unTg g E0 E) := id rfl
@[simp] theorem lcT_some (elt : Ex) (g : Tg) (cond : Ox) (E0 : VE) : lcT c elt g cond E0 (some E) = lcE c elt g E0 (vC c cond E) := id rfl
def lcK (elt : Ex) (g : Tg) (cond : Ox) : R (List I) → R (List V) := fun r => r.bind fun xs E1 => vlcGo (vlcStep c elt g cond) xs [] E1
def lcF : R (List V) → R V := fun r => r.bind fun ys E2 => .ok (mkL ys) E2
def lcU (i : Nat) (vs : List V) : R (List V) → R V := fun r => r.bind fun ys E2 => .ok (mkL ys) (E2.set i (.lst vs))
def lc0 (elt : Ex) (g : Tg) (it : Ix) (cond : Ox) (E : VE) : Option (Nat × List V × List I) → R V
  | some (i, vs, xs) => lcU i vs (vlcGo (vlcStep c elt g cond) xs [] (E.set i .gone))
  | none => lcF (lcK c elt g cond (vI c it E))
@[simp] theorem vE_lc (elt : Ex) (g : Tg) (it : Ix) (cond : Ox) : vE c (.lc elt g it cond) E = lc0 c elt g it cond E (lockOf g it E) := by
  have e : (fun x E => match (if tgFree g E then vSetTg [] g (.im x) E else none) with
      | some E1 => (vC c cond E1).bind fun k E2 => if k = true then (vE c elt E2).bind fun y E3 => .ok (some y) (unTg g E E3) else .ok none (unTg g E E2)
      | none => .bad) = vlcStep c elt g cond := by
    funext x E
    simp only [vlcStep, lcT] <;> rfl
  simp only [vE, e]
  cases lockOf g it E with
  | none =>
    simp only [lc0, lcF, lcK]
    cases vI c it E with
    | ok xs E1 => rfl
    | err => rfl
    | bad => rfl
  | some t => rfl
@[simp] theorem lc0_none (elt : Ex) (g : Tg) (it : Ix) (cond : Ox) : lc0 c elt g it cond E none = lcF (lcK c elt g cond (vI c it E)) := id rfl
@[simp] theorem lc0_some (elt : Ex) (g : Tg) (it : Ix) (cond : Ox) (i : Nat) (vs : List V) (xs : List I) : lc0 c elt g it cond E (some (i, vs, xs)) = lcU i vs (vlcGo (vlcStep c elt g cond) xs [] (E.set i .gone)) := id rfl
@[simp] theorem lcU_ok (i : Nat) (vs ys : List V) : lcU i vs (.ok ys E) = .ok (mkL ys) (E.set i (.lst vs)) := id rfl
@[simp] theorem lockOf_var (g : Tg) (i : Nat) (h : i ∉ tgSlots g) : lockOf g (.of (.var i)) E = lockV i E[i]? := if_neg h
@[simp] theorem lockV_im (i : Nat) (x : I) : lockV i (some (.im x)) = none := id rfl
@[simp] theorem lockV_lstV (i : Nat) (xs : List I) : lockV i (some (lstV xs)) = some (i, xs.map .im, xs) := by simp [lockV, lstV, ims_map]
@[simp] theorem lockV_dic (i : Nat) (ks : List I) (vs : List V) : lockV i (some (.obj (.dic ks) vs)) = none := id rfl
@[simp] theorem lockV_ins (i : Nat) (C : Str) (fs : List Str) (vs : List V) : lockV i (some (.obj (.ins C fs) vs)) = none := id rfl
@[simp] theorem lockV_tup (i : Nat) (vs : List V) : lockV i (some (.tup vs)) = none := id rfl
@[simp] theorem lockOf_call (g : Tg) (f : Str) (es : Exs) : lockOf g (.of (.call f es)) E = none := id rfl
@[simp] theorem lockOf_meth (g : Tg) (o : Ex) (f : Str) (es : Exs) : lockOf g (.of (.meth o f es)) E = none := id rfl
@[simp] theorem lockOf_idx (g : Tg) (a b : Ex) : lockOf g (.of (.idx a b)) E = none := id rfl
@[simp] theorem lockOf_fld (g : Tg) (a : Ex) (f : Str) : lockOf g (.of (.fld a f)) E = none := id rfl
@[simp] theorem lockOf_slice (g : Tg) (a : Ex) (l h : Ox) : lockOf g (.of (.slice a l h)) E = none := id rfl
@[simp] theorem lockOf_rev (g : Tg) (a : Ex) : lockOf g (.of (.rev a)) E = none := id rfl
@[simp] theorem lockOf_bin (g : Tg) (o : BOp) (a b : Ex) : lockOf g (.of (.bin o a b)) E = none := id rfl
@[simp] theorem lockOf_lst (g : Tg) (es : Exs) : lockOf g (.of (.lst es)) E = none := id rfl
@[simp] theorem lockOf_tup (g : Tg) (es : Exs) : lockOf g (.of (.tup es)) E = none := id rfl
@[simp] theorem lockOf_bi (g : Tg) (f : Bi) (es : Exs) : lockOf g (.of (.bi f es)) E = none := id rfl
@[simp] theorem lockOf_bm (g : Tg) (m : Bm) (o : Ex) (es : Exs) : lockOf g (.of (.bm m o es)) E = none := id rfl
@[simp] theorem lockOf_rng1 (g : Tg) (a : Ex) : lockOf g (.rng1 a) E = none := id rfl
@[simp] theorem lockOf_rng2 (g : Tg) (a b : Ex) : lockOf g (.rng2 a b) E = none := id rfl
@[simp] theorem lockOf_rng3 (g : Tg) (a b d : Ex) : lockOf g (.rng3 a b d) E = none := id rfl
@[simp] theorem lockOf_enum (g : Tg) (a : Ex) : lockOf g (.enum a) E = none := id rfl
@[simp] theorem tgSlots_nm (i : Nat) : tgSlots (.nm i) = [i] := id rfl
@[simp] theorem tgSlots_tup (is : List Nat) : tgSlots (.tup is) = is := id rfl
theorem lst_lstV (xs : List I) : V.lst (xs.map .im) = lstV xs := rfl
@[simp] theorem lcK_ok (elt : Ex) (g : Tg) (cond : Ox) (xs : List I) : lcK c elt g cond (.ok xs E) = vlcGo (vlcStep c elt g cond) xs [] E := id rfl
@[simp] theorem lcF_ok (ys : List V) : lcF (.ok ys E) = .ok (mkL ys) E := id rfl
/-! tests -/
def tandK (b : Ex) : R Bool → R Bool := fun r => r.bind fun k E1 => if k = true then vT c b E1 else .ok false E1
def torK (b : Ex) : R Bool → R Bool := fun r => r.bind fun k E1 => if k = true then .ok true E1 else vT c b E1
def tnotK : R Bool → R Bool := fun r => r.bind fun k E1 => .ok (!k) E1
def truK : R V → R Bool := fun r => r.bind fun x E2 => liftV E2 (op1 iTruth x)
@[simp] theorem vT_and (a b : Ex) : vT c (.and_ a b) E = tandK c b (vT c a E) := id rfl
@[simp] theorem vT_or (a b : Ex) : vT c (.or_ a b) E = torK c b (vT c a E) := id rfl
@[simp] theorem vT_not (a : Ex) : vT c (.not_ a) E = tnotK (vT c a E) := id rfl
@[simp] theorem tandK_ok (b : Ex) (k : Bool) : tandK c b (.ok k E) = if k = true then vT c b E else .ok false E := id rfl
@[simp] theorem torK_ok (b : Ex) (k : Bool) : torK c b (.ok k E) = if k = true then .ok true E else vT c b E := id rfl
@[simp] theorem tnotK_ok (k : Bool) : tnotK (.ok k E) = .ok (!k) E := id rfl
@[simp] theorem truK_ok (x : V) : truK (.ok x E) = liftV E (op1 iTruth x) := id rfl
@[simp] theorem vT_var (i : Nat) : vT c (.var i) E = truK (viewA E true E[i]?) := by
  simp only [vT, view_var] <;> rfl
@[simp] theorem vT_call (f : Str) (es : Exs) : vT c (.call f es) E = truK (callK (c.call f) (vAs c (c.io f) es E)) := id rfl
@[simp] theorem vT_bi (f : Bi) (es : Exs) : vT c (.bi f es) E = truK (biK f (vB c es E)) := by
  have h := vE_bi c E f es
  simp only [vE] at h
  simp only [vT, h] <;> rfl
@[simp] theorem vT_idx (a b : Ex) : vT c (.idx a b) E = truK (idx0 c a b E (plc c E (.idx a b))) := by
  have h := vE_idx c E a b
  simp only [vE] at h
  simp only [vT, h] <;> rfl
@[simp] theorem vT_meth (o : Ex) (m : Str) (es : Exs) : vT c (.meth o m es) E = truK (mtK c m es (recv (isVar o) E (vE c o E))) := id rfl
/-! lists of expressions -/
def esL (x : V) : R (List V) → R (List V) := fun r => r.bind fun xs E2 => .ok (x :: xs) E2
def esK (es : Exs) : R V → R (List V) := fun r => r.bind fun x E1 => esL x (vEs c es E1)
@[simp] theorem vEs_nil : vEs c .nil E = .ok [] E := id rfl
@[simp] theorem vEs_cons (e : Ex) (es : Exs) : vEs c (.cons e es) E = esK c es (vE c e E) := id rfl
@[simp] theorem esK_ok (es : Exs) (x : V) : esK c es (.ok x E) = esL x (vEs c es E) := id rfl
@[simp] theorem esL_ok (x : V) (xs : List V) : esL x (.ok xs E) = .ok (x :: xs) E := id rfl
def b1K : R V → R (List V) := fun r => r.bind fun x E1 => .ok [x] E1
def bsK (es : Exs) : R V → R (List V) := fun r => r.bind fun x E1 => esL x (vB c es E1)
@[simp] theorem vB_one (a : Ex) : vB c (.cons a .nil) E = b1K (viewK c a true E (plc c E a)) := by simp only [vB, b1K, view_eq]
@[simp] theorem vB_cons (a b : Ex) (es : Exs) : vB c (.cons a (.cons b es)) E = bsK c (.cons b es) (vE c a E) := id rfl
@[simp] theorem b1K_ok (x : V) : b1K (.ok x E) = .ok [x] E := id rfl
@[simp] theorem bsK_ok (es : Exs) (x : V) : bsK c es (.ok x E) = esL x (vB c es E) := id rfl
def asL (a : Arg) : R (List Arg) → R (List Arg) := fun r => r.bind fun as E2 => .ok (a :: as) E2
def asK (io : List Bool) (es : Exs) : R V → R (List Arg) := fun r => r.bind fun x E1 => asL (.v x) (vAs c io es E1)
def asF (io : List Bool) (es : Exs) : R V → R (List Arg) := fun r => (r.bind fun x E1 => liftV E1 (x.freeze.map .im)).bind fun x E1 => asL (.v x) (vAs c io es E1)
def asG (io : List Bool) (es : Exs) (E : VE) : Option I → R (List Arg)
  | some y => asL (.v (.im y)) (vAs c io es E)
  | none => .bad
def as0 (e : Ex) (io : List Bool) (es : Exs) (E : VE) : Option Nat → Bool → R (List Arg)
  | some i, true => if isGone E i then .bad else asL (.ln i) (vAs c io es E)
  | none, true => asK c io es (vE c e E)
  | _, false => asF c io es (vE c e E)
@[simp] theorem vAs_nil (io : List Bool) : vAs c io .nil E = .ok [] E := by simp only [vAs]
@[simp] theorem vAs_cons (io : List Bool) (e : Ex) (es : Exs) : vAs c io (.cons e es) E = as0 c e io.tail es E (isVar e) (ioAt io) := by
  simp only [vAs]
  cases isVar e with
  | none => cases ioAt io <;> rfl
  | some i => cases ioAt io <;> rfl
@[simp] theorem as0_ln (e : Ex) (io : List Bool) (es : Exs) (i : Nat) (h : isGone E i = false) : as0 c e io es E (some i) true = asL (.ln i) (vAs c io es E) := by simp [as0, h]
@[simp] theorem as0_no (e : Ex) (io : List Bool) (es : Exs) (o : Option Nat) : as0 c e io es E o false = asF c io es (vE c e E) := by
  cases o <;> rfl
@[simp] theorem as0_none (e : Ex) (io : List Bool) (es : Exs) : as0 c e io es E none true = asK c io es (vE c e E) := id rfl
@[simp] theorem asF_ok (io : List Bool) (es : Exs) (x : V) : asF c io es (.ok x E) = asG c io es E x.freeze := by
  simp only [asF, R.bind, asG]
  cases x.freeze <;> rfl
@[simp] theorem asG_some (io : List Bool) (es : Exs) (y : I) : asG c io es E (some y) = asL (.v (.im y)) (vAs c io es E) := id rfl
@[simp] theorem asK_ok (io : List Bool) (es : Exs) (x : V) : asK c io es (.ok x E) = asL (.v x) (vAs c io es E) := id rfl
@[simp] theorem asL_ok (a : Arg) (as : List Arg) : asL a (.ok as E) = .ok (a :: as) E := id rfl
@[simp] theorem ioAt_cons (b : Bool) (l : List Bool) : ioAt (b :: l) = b := id rfl
@[simp] theorem ioAt_nil : ioAt [] = false := id rfl
def goneV : Option V → Bool
  | some .gone => true
  | none => true
  | _ => false
@[simp] theorem isGone_eq (i : Nat) : isGone E i = goneV E[i]? := by
  simp only [isGone, goneV] <;> rfl
@[simp] theorem goneV_im (x : I) : goneV (some (.im x)) = false := id rfl
@[simp] theorem goneV_tup (vs : List V) : goneV (some (.tup vs)) = false := id rfl
@[simp] theorem goneV_obj (k : Knd) (vs : List V) : goneV (some (.obj k vs)) = false := id rfl
@[simp] theorem goneV_lstV (vs : List I) : goneV (some (lstV vs)) = false := id rfl
@[simp] theorem goneV_dicV (vs : List I × List I) : goneV (some (dicV vs)) = false := id rfl
def oK : R V → R (Option Int) := fun r => r.bind fun x E1 => (match x with
    | .im (.int i) => .ok (some i) E1
    | _ => .bad)
@[simp] theorem vO_none : vO c .none E = .ok none E := id rfl
@[simp] theorem vO_some (e : Ex) : vO c (.some e) E = oK (vE c e E) := id rfl
@[simp] theorem oK_ok (i : Int) : oK (.ok (.im (.int i)) E) = .ok (some i) E := id rfl
@[simp] theorem vC_none : vC c .none E = .ok true E := id rfl
@[simp] theorem vC_some (e : Ex) : vC c (.some e) E = vT c e E := id rfl
/-! what is walked -/
def ofK : R V → R (List I) := fun r => r.bind fun x E1 => liftV E1 (x.freeze.bind iWalk)
@[simp] theorem vI_of (e : Ex) : vI c (.of e) E = ofK (vE c e E) := id rfl
@[simp] theorem ofK_ok (x : V) : ofK (.ok x E) = liftV E (x.freeze.bind iWalk) := id rfl
def rng1K : R V → R (List I) := fun r => r.bind fun x E1 => (match x with
    | .im (.int i) => if inBound i then .ok (iRange 0 i) E1 else .bad
    | _ => .bad)
@[simp] theorem vI_rng1 (a : Ex) : vI c (.rng1 a) E = rng1K (vE c a E) := id rfl
@[simp] theorem rng1K_ok (i : Int) (h : inBound i = true) : rng1K (.ok (.im (.int i)) E) = .ok (iRange 0 i) E := if_pos h
def rng2L (x : V) : R V → R (List I) := fun r => r.bind fun y E2 => (match x, y with
    | .im (.int i), .im (.int j) => if inBound i && inBound j then .ok (iRange i j) E2 else .bad
    | _, _ => .bad)
def rng2K (b : Ex) : R V → R (List I) := fun r => r.bind fun x E1 => rng2L x (vE c b E1)
@[simp] theorem vI_rng2 (a b : Ex) : vI c (.rng2 a b) E = rng2K c b (vE c a E) := id rfl
@[simp] theorem rng2K_ok (b : Ex) (x : V) : rng2K c b (.ok x E) = rng2L x (vE c b E) := id rfl
@[simp] theorem rng2L_ok (i j : Int) (h : inBound i = true) (g : inBound j = true) : rng2L (.im (.int i)) (.ok (.im (.int j)) E) = .ok (iRange i j) E := if_pos (by rw [h, g]; rfl)
def enK : R V → R (List I) := fun r => r.bind fun x E1 => liftV E1 ((x.freeze.bind iItems).map (iEnum 0))
@[simp] theorem vI_enum (e : Ex) : vI c (.enum e) E = enK (vE c e E) := id rfl
@[simp] theorem enK_ok (x : V) : enK (.ok x E) = liftV E ((x.freeze.bind iItems).map (iEnum 0)) := id rfl
/-! ### statements -/
def asgK (pin : List Bool) (i : Nat) : R V → R VFl := fun r => r.bind fun x E1 => if pin.getD i false then .bad else .ok .nx (E1.set i x)
@[simp] theorem vS_asg (i : Nat) (e : Ex) : vS c (.asg i e) E = asgK c.pin i (vE c e E) := id rfl
@[simp] theorem asgK_ok (pin : List Bool) (i : Nat) (x : V) (h : pin.getD i false = false) : asgK pin i (.ok x E) = .ok .nx (E.set i x) := if_neg (by rw [h]; intro z; cases z)
def unpO : Option VE → R VFl
  | some E2 => .ok .nx E2
  | none => .bad
def unpK (pin : List Bool) (is : List Nat) : R V → R VFl := fun r => r.bind fun x E1 => unpO (vSetTg pin (.tup is) x E1)
@[simp] theorem vS_unp (is : List Nat) (e : Ex) : vS c (.unp is e) E = unpK c.pin is (vE c e E) := id rfl
@[simp] theorem unpK_ok (pin : List Bool) (is : List Nat) (x : V) : unpK pin is (.ok x E) = unpO (vSetTg pin (.tup is) x E) := id rfl
@[simp] theorem unpO_some : unpO (some E) = .ok .nx E := id rfl
def setO (n : Nat) (js : List Nat) (E : VE) : Option V → R VFl
  | some o => .ok .nx (pokeE E n js o)
  | none => .bad
def setP (k : I) (v : V) (n : Nat) (js : List Nat) (E : VE) : Option V → R VFl
  | some o1 => setO n js E (vSet o1 k v)
  | none => .bad
def setQ (v : V) (E : VE) : Option (Nat × List Nat) → Option I → R VFl
  | some (n, js), some k => setP k v n js E (peekE E n js)
  | _, _ => .bad
def setK (o i : Ex) : R V → R VFl := fun r => r.bind fun v E1 => setQ v E1 (plc c E1 o) (sEv c E1 i)
@[simp] theorem vS_seti (o i e : Ex) : vS c (.seti o i e) E = setK c o i (vE c e E) := id rfl
@[simp] theorem setK_ok (o i : Ex) (v : V) : setK c o i (.ok v E) = setQ v E (plc c E o) (sEv c E i) := id rfl
@[simp] theorem setQ_some (v : V) (n : Nat) (js : List Nat) (k : I) : setQ v E (some (n, js)) (some k) = setP k v n js E (peekE E n js) := id rfl
@[simp] theorem setP_some (k : I) (v : V) (n : Nat) (js : List Nat) (o : V) : setP k v n js E (some o) = setO n js E (vSet o k v) := id rfl
@[simp] theorem setO_some (n : Nat) (js : List Nat) (o : V) : setO n js E (some o) = .ok .nx (pokeE E n js o) := id rfl
def setfP (f : Str) (v : V) (n : Nat) (js : List Nat) (E : VE) : Option V → R VFl
  | some o1 => setO n js E (vSetF o1 f v)
  | none => .bad
def setfQ (f : Str) (v : V) (E : VE) : Option (Nat × List Nat) → R VFl
  | some (n, js) => setfP f v n js E (peekE E n js)
  | _ => .bad
def setfK (o : Ex) (f : Str) : R V → R VFl := fun r => r.bind fun v E1 => setfQ f v E1 (plc c E1 o)
@[simp] theorem vS_setf (o : Ex) (f : Str) (e : Ex) : vS c (.setf o f e) E = setfK c o f (vE c e E) := by
  simp only [vS, setfK]
  congr 1; funext v E1
  cases plc c E1 o with
  | none => rfl
  | some p => rfl
@[simp] theorem setfK_ok (o : Ex) (f : Str) (v : V) : setfK c o f (.ok v E) = setfQ f v E (plc c E o) := id rfl
@[simp] theorem setfQ_some (f : Str) (v : V) (n : Nat) (js : List Nat) : setfQ f v E (some (n, js)) = setfP f v n js E (peekE E n js) := id rfl
@[simp] theorem setfP_some (f : Str) (v : V) (n : Nat) (js : List Nat) (o : V) : setfP f v n js E (some o) = setO n js E (vSetF o f v) := id rfl
@[simp] theorem vS_nev : vS c .nev E = .bad := id rfl
def exK : R V → R VFl := fun r => r.bind fun _ E1 => .ok .nx E1
@[simp] theorem vS_ex (e : Ex) : vS c (.ex e) E = exK (vE c e E) := id rfl
@[simp] theorem exK_ok (x : V) : exK (.ok x E) = .ok .nx E := id rfl
def retK : R V → R VFl := fun r => r.bind fun x E1 => .ok (.rt x) E1
@[simp] theorem vS_ret (e : Ex) : vS c (.ret e) E = retK (vE c e E) := id rfl
@[simp] theorem retK_ok (x : V) : retK (.ok x E) = .ok (.rt x) E := id rfl
@[simp] theorem vS_retN : vS c .retN E = .ok (.rt (.im .non)) E := id rfl
@[simp] theorem vS_pass : vS c .pass E = .ok .nx E := id rfl
@[simp] theorem vS_brk : vS c .brk E = .ok .bk E := id rfl
@[simp] theorem vS_cont : vS c .cont E = .ok .ct E := id rfl
def ifK (a b : Ss) : R Bool → R VFl := fun r => r.bind fun k E1 => if k = true then vSs c a E1 else vSs c b E1
@[simp] theorem vS_ifs (t : Ex) (a b : Ss) : vS c (.ifs t a b) E = ifK c a b (vT c t E) := id rfl
@[simp] theorem ifK_ok (a b : Ss) (k : Bool) : ifK c a b (.ok k E) = if k = true then vSs c a E else vSs c b E := id rfl
def whStep (t : Ex) (b : Ss) (n : Nat) (E : VE) : R VFl := vwhileGo (fun E => vT c t E) (fun E => vSs c b E) n E
theorem vS_whl (t : Ex) (b : Ss) : vS c (.whl t b) E = whStep c t b c.wf E := id rfl
def stepV (g : Tg) (b : Ss) (x : I) (E : VE) : R VFl := match vSetTg c.pin g (.im x) E with
  | some E1 => vSs c b E1
  | none => .bad
def forK (g : Tg) (b : Ss) : R (List I) → R VFl := fun r => r.bind fun xs E1 => vforGo (stepV c g b) xs E1
@[simp] theorem vS_for (g : Tg) (it : Ix) (b : Ss) : vS c (.for_ g it b) E = forK c g b (vI c it E) := id rfl
@[simp] theorem forK_ok (g : Tg) (b : Ss) (xs : List I) : forK c g b (.ok xs E) = vforGo (stepV c g b) xs E := id rfl
@[simp] theorem vS_kill (is : List Nat) : vS c (.kill is) E = .ok .nx (killAll is E) := id rfl
@[simp] theorem killAll_nil : killAll [] E = E := id rfl
@[simp] theorem killAll_cons (i : Nat) (is : List Nat) : killAll (i :: is) E = killAll is (E.set i .gone) := id rfl
def seqK (ss : Ss) : R VFl → R VFl := fun r => r.bind fun fl E1 => (match fl with
    | .nx => vSs c ss E1
    | fl => .ok fl E1)
@[simp] theorem vSs_nil : vSs c .nil E = .ok .nx E := id rfl
@[simp] theorem vSs_cons (s : S) (ss : Ss) : vSs c (.cons s ss) E = seqK c ss (vS c s E) := id rfl
@[simp] theorem seqK_nx (ss : Ss) : seqK c ss (.ok .nx E) = vSs c ss E := id rfl
@[simp] theorem seqK_rt (ss : Ss) (v : V) : seqK c ss (.ok (.rt v) E) = .ok (.rt v) E := id rfl
@[simp] theorem seqK_bk (ss : Ss) : seqK c ss (.ok .bk E) = .ok .bk E := id rfl
@[simp] theorem seqK_ct (ss : Ss) : seqK c ss (.ok .ct E) = .ok .ct E := id rfl
@[simp] theorem seqK_err (ss : Ss) (C : Str) (fs : List Str) (vs : List I) : seqK c ss (.err C fs vs E) = .err C fs vs E := id rfl
end
/-! ### calls -/
@[simp] theorem lend_nil (E : VE) : lend [] E = some ([], E) := id rfl
def lendM (v : V) : Option (List V × VE) → Option (List V × VE)
  | some p => some (v :: p.1, p.2)
  | none => none
@[simp] theorem lendM_some (v : V) (vs : List V) (E : VE) : lendM v (some (vs, E)) = some (v :: vs, E) := id rfl
@[simp] theorem lend_v (v : V) (as : List Arg) (E : VE) : lend (.v v :: as) E = lendM v (lend as E) := by
  simp only [lend]; cases lend as E <;> rfl
def lendI (i : Nat) (as : List Arg) (E : VE) : Option V → Option (List V × VE)
  | some (.im x) => lendM (.im x) (lend as E)
  | some .gone => none
  | some v => lendM v (lend as (E.set i .gone))
  | none => none
@[simp] theorem lend_ln (i : Nat) (as : List Arg) (E : VE) : lend (.ln i :: as) E = lendI i as E E[i]? := by
  simp only [lend, lendI]
  cases E[i]? with
  | none => rfl
  | some v =>
    cases v with
    | im x => simp only; cases lend as E <;> rfl
    | gone => rfl
    | tup vs => simp only; cases lend as (E.set i .gone) <;> rfl
    | obj k vs => simp only; cases lend as (E.set i .gone) <;> rfl
@[simp] theorem lendI_im (i : Nat) (as : List Arg) (E : VE) (x : I) : lendI i as E (some (.im x)) = lendM (.im x) (lend as E) := id rfl
@[simp] theorem lendI_obj (i : Nat) (as : List Arg) (E : VE) (k : Knd) (vs : List V) : lendI i as E (some (.obj k vs)) = lendM (.obj k vs) (lend as (E.set i .gone)) := id rfl
@[simp] theorem lendI_lstV (i : Nat) (as : List Arg) (E : VE) (xs : List I) : lendI i as E (some (lstV xs)) = lendM (lstV xs) (lend as (E.set i .gone)) := id rfl
@[simp] theorem lendI_dicV (i : Nat) (as : List Arg) (E : VE) (xs : List I × List I) : lendI i as E (some (dicV xs)) = lendM (dicV xs) (lend as (E.set i .gone)) := id rfl
@[simp] theorem lendI_tup (i : Nat) (as : List Arg) (E : VE) (vs : List V) : lendI i as E (some (.tup vs)) = lendM (.tup vs) (lend as (E.set i .gone)) := id rfl
def callG (as : List Arg) (f : List V → RO) : Option (List V × VE) → R V
  | some (vs, E1) => backR as E1 (f vs)
  | none => .bad
@[simp] theorem doCall_eq (as : List Arg) (E : VE) (f : List V → RO) : doCall as E f = callG as f (lend as E) := id rfl
@[simp] theorem callG_some (as : List Arg) (f : List V → RO) (vs : List V) (E : VE) : callG as f (some (vs, E)) = backR as E (f vs) := id rfl
@[simp] theorem backR_ok (as : List Arg) (E : VE) (v : V) (outs : List V) : backR as E (.ok v outs) = .ok v (back as outs E) := id rfl
@[simp] theorem backR_err (as : List Arg) (E : VE) (C : Str) (fs : List Str) (vs : List I) (outs : List V) : backR as E (.err C fs vs outs) = .err C fs vs (back as outs E) := id rfl
@[simp] theorem back_nil (outs : List V) (E : VE) : back [] outs E = E := by cases outs <;> rfl
@[simp] theorem back_ln (i : Nat) (as : List Arg) (o : V) (os : List V) (E : VE) : back (.ln i :: as) (o :: os) E = back as os (E.set i o) := id rfl
@[simp] theorem back_v (v : V) (as : List Arg) (o : V) (os : List V) (E : VE) : back (.v v :: as) (o :: os) E = back as os E := id rfl
/-! ### functions -/
def runO (io : List Bool) (np : Nat) : R VFl → RO
  | .ok (.rt v) E => .ok v (outsOf io np E)
  | .ok .nx E => .ok (.im .non) (outsOf io np E)
  | .err C fs vs E => .err C fs vs (outsOf io np E)
  | _ => .bad
@[simp] theorem runO_rt (io : List Bool) (np : Nat) (v : V) (E : VE) : runO io np (.ok (.rt v) E) = .ok v (outsOf io np E) := id rfl
@[simp] theorem runO_nx (io : List Bool) (np : Nat) (E : VE) : runO io np (.ok .nx E) = .ok (.im .non) (outsOf io np E) := id rfl
@[simp] theorem runO_err (io : List Bool) (np : Nat) (C : Str) (fs : List Str) (vs : List I) (E : VE) : runO io np (.err C fs vs E) = .err C fs vs (outsOf io np E) := id rfl
def vCtx (T : VTbl) (wf k : Nat) (pin : List Bool) : VC := { vctx T wf k with pin := pin }
theorem vRun_eq {T : VTbl} {wf k : Nat} (f : Fn) (io : List Bool) (args : List V) (h : args.length = f.np) : vRun (vctx T wf k) f io args = runO io f.np (vSs (vCtx T wf k io) f.body (args ++ List.replicate (f.names.length - args.length) .gone)) := by
  simp only [vRun, if_pos h] <;> rfl
section
variable (T : VTbl) (wf k : Nat) (pin : List Bool)
@[simp] theorem vCtx_call : (vCtx T wf k pin).call = (vctx T wf k).call := id rfl
@[simp] theorem vCtx_make : (vCtx T wf k pin).make = (vctx T wf k).make := id rfl
@[simp] theorem vCtx_meth : (vCtx T wf k pin).meth = (vctx T wf k).meth := id rfl
@[simp] theorem vCtx_pin : (vCtx T wf k pin).pin = pin := id rfl
@[simp] theorem vCtx_io : (vCtx T wf k pin).io = T.ioOf := by cases k <;> rfl
@[simp] theorem vCtx_ioM : (vCtx T wf k pin).ioM = T.ioMOf := by cases k <;> rfl
@[simp] theorem vCtx_glo (x : Str) : (vCtx T wf k pin).glo x = T.glo.lookup x := by cases k <;> rfl
@[simp] theorem vCtx_wf : (vCtx T wf k pin).wf = wf := by cases k <;> rfl
@[simp] theorem vCtx_sub : (vCtx T wf k pin).sub = T.T.sub := by cases k <;> rfl
@[simp] theorem vCtx_exc : (vCtx T wf k pin).exc = fun C => T.T.excs.lookup C := by cases k <;> rfl
end
@[simp] theorem outsOf_zero (io : List Bool) (E : VE) : outsOf io 0 E = [] := by cases io <;> rfl
@[simp] theorem outsOf_succ (io : List Bool) (n : Nat) (v : V) (E : VE) : outsOf io (n + 1) (v :: E) = (if ioAt io then v else .gone) :: outsOf io.tail n E := by cases io <;> rfl
theorem call_of {T : VTbl} {wf k : Nat} {f : Str} {fn : Fn} {io : List Bool} (h : T.T.fn.lookup f = some fn) (hio : T.ioOf f = io) (args : List V) : (vctx T wf (k + 1)).call f args = vRun (vctx T wf k) fn io args := by
  simp only [vctx, h, hio]
theorem meth_of {T : VTbl} {wf k : Nat} {C m : Str} {fn : Fn} {io : List Bool} (h : ((T.T.meths.lookup C).bind fun ms => ms.lookup m) = some fn) (hio : T.ioMOf C m = io) (args : List V) : (vctx T wf (k + 1)).meth C m args = vRun (vctx T wf k) fn io args := by
  simp only [vctx, h, hio]
/-! ### operations -/
section ops
@[simp] theorem iEq_str (a b : Str) : iEq (.str a) (.str b) = some (decide (a = b)) := by simp [iEq, I.dv, I.lists, DV.deep]
@[simp] theorem iEq_int (a b : Int) : iEq (.int a) (.int b) = some (decide (a = b)) := by simp [iEq, I.dv, I.lists, DV.deep]
@[simp] theorem iCmp_eq (a b : I) : iCmp .eq a b = iEq a b := id rfl
@[simp] theorem iCmp_ne (a b : I) : iCmp .ne a b = (iEq a b).map (!·) := id rfl
@[simp] theorem iCmp_lt (a b : Int) : iCmp .lt (.int a) (.int b) = some (decide (a < b)) := id rfl
@[simp] theorem iCmp_le (a b : Int) : iCmp .le (.int a) (.int b) = some (decide (a ≤ b)) := id rfl
@[simp] theorem iCmp_gt (a b : Int) : iCmp .gt (.int a) (.int b) = some (decide (b < a)) := id rfl
@[simp] theorem iCmp_ge (a b : Int) : iCmp .ge (.int a) (.int b) = some (decide (b ≤ a)) := id rfl
@[simp] theorem iCmp_in (a b : I) : iCmp .isin a b = iIn a b := id rfl
@[simp] theorem iCmp_notin (a b : I) : iCmp .notin a b = (iIn a b).map (!·) := id rfl
@[simp] theorem iCmp_is (a b : I) : iCmp .is_ a b = iIs a b := id rfl
@[simp] theorem iCmp_isnot (a b : I) : iCmp .isnot a b = (iIs a b).map (!·) := id rfl
@[simp] theorem iIs_non (a : I) : iIs a .non = some (decide (a = .non)) := id rfl
@[simp] theorem iIs_bl (a b : Bool) : iIs (.bl a) (.bl b) = some (decide (a = b)) := id rfl
@[simp] theorem iBin_add_int (a b : Int) : iBin .add (.int a) (.int b) = some (.im (.int (a + b))) := id rfl
@[simp] theorem iBin_add_str (a b : Str) : iBin .add (.str a) (.str b) = if a.length + b.length ≤ big then some (.im (.str (a ++ b))) else none := id rfl
@[simp] theorem iBin_add_tup (a b : List I) (h : a.length + b.length ≤ big) : iBin .add (.tup a) (.tup b) = some (.im (.tup (a ++ b))) := if_pos h
@[simp] theorem iBin_add_lst (a b : List I) (h : a.length + b.length ≤ big) : iBin .add (.lst a) (.lst b) = some (lstV (a ++ b)) := if_pos h
@[simp] theorem iBin_sub_int (a b : Int) : iBin .sub (.int a) (.int b) = some (.im (.int (a - b))) := id rfl
@[simp] theorem iBin_mul_int (a b : Int) (h : mulOk a b = true) : iBin .mul (.int a) (.int b) = some (.im (.int (a * b))) := if_pos h
@[simp] theorem iBin_mul_lst (xs : List I) (k : Int) (h : k < 1000 ∧ -1000 < k ∧ xs.length ≤ 1000) : iBin .mul (.lst xs) (.int k) = some (lstV (List.replicate k.toNat xs).flatten) := if_pos h
@[simp] theorem iBin_mul_str (x : Str) (k : Int) (h : k < 1000 ∧ -1000 < k ∧ x.length ≤ 1000) : iBin .mul (.str x) (.int k) = some (.im (.str ⟨(List.replicate k.toNat x.cps.toList).flatten.toArray⟩)) := if_pos h
@[simp] theorem iBin_fdiv (a b : Int) (h : 0 < b ∧ b ≤ 1000000000000000000000000000000000000000000000000000000000000) : iBin .fdiv (.int a) (.int b) = some (.im (.int (a / b))) := if_pos h
@[simp] theorem iBin_mod (a b : Int) (h : 0 < b) : iBin .mod (.int a) (.int b) = some (.im (.int (a % b))) := if_pos h
@[simp] theorem iBin_pow (a b : Int) : iBin .pow (.int a) (.int b) = if 0 ≤ b ∧ b ≤ 1000000 ∧ a.natAbs < 2 ^ 64 then some (.im (.int (a ^ b.toNat))) else none := id rfl
@[simp] theorem iIdx_fl (xs : List Int) (i : Int) : iIdx (.fl xs) (.int i) = (ixOf xs.length i).bind fun j => (xs[j]?).map .int := id rfl
@[simp] theorem iIdx_tup (xs : List I) (i : Int) : iIdx (.tup xs) (.int i) = (ixOf xs.length i).bind fun j => xs[j]? := id rfl
@[simp] theorem iIdx_lst (xs : List I) (i : Int) : iIdx (.lst xs) (.int i) = (ixOf xs.length i).bind fun j => xs[j]? := id rfl
@[simp] theorem iIdx_str (x : Str) (i : Int) : iIdx (.str x) (.int i) = if x.length ≤ big then (ixOf x.cps.toList.length i).bind fun j => (x.cps.toList[j]?).map fun c => .str ⟨#[c]⟩ else none := id rfl
@[simp] theorem iIdx_dic (ks vs : List I) (k : I) (h : iKey k = true) : iIdx (.dic ks vs) k = (keyIx k ks).bind fun j => vs[j]? := if_pos h
@[simp] theorem iKey_int (i : Int) : iKey (.int i) = true := id rfl
@[simp] theorem iKey_str (i : Str) : iKey (.str i) = true := id rfl
@[simp] theorem iTruth_bl (b : Bool) : iTruth (.bl b) = some b := id rfl
@[simp] theorem iTruth_non : iTruth .non = some false := id rfl
@[simp] theorem iTruth_int (i : Int) : iTruth (.int i) = some (i != 0) := id rfl
@[simp] theorem iTruth_tup (xs : List I) : iTruth (.tup xs) = some (!xs.isEmpty) := id rfl
@[simp] theorem iTruth_lst (xs : List I) : iTruth (.lst xs) = some (!xs.isEmpty) := id rfl
@[simp] theorem iSlice_tup (xs : List I) (l h : Option Int) : iSlice (.tup xs) l h = some (.im (.tup (cut xs l h))) := id rfl
@[simp] theorem iSlice_lst (xs : List I) (l h : Option Int) : iSlice (.lst xs) l h = some (lstV (cut xs l h)) := id rfl
@[simp] theorem iRev_tup (xs : List I) : iRev (.tup xs) = some (.im (.tup xs.reverse)) := id rfl
@[simp] theorem iRev_lst (xs : List I) : iRev (.lst xs) = some (lstV xs.reverse) := id rfl
@[simp] theorem iBi_len_tup (xs : List I) : iBi .len [.tup xs] = some (.im (.int xs.length)) := id rfl
@[simp] theorem iBi_len_fl (xs : List Int) : iBi .len [.fl xs] = some (.im (.int xs.length)) := id rfl
@[simp] theorem iBi_len_lst (xs : List I) : iBi .len [.lst xs] = some (.im (.int xs.length)) := id rfl
@[simp] theorem iBi_len_dic (ks xs : List I) : iBi .len [.dic ks xs] = some (.im (.int ks.length)) := id rfl
@[simp] theorem iBi_len_str (x : Str) : iBi .len [.str x] = if x.length ≤ big then some (.im (.int x.length)) else none := id rfl
@[simp] theorem iBi_list_lst (xs : List I) : iBi .list [.lst xs] = some (lstV xs) := id rfl
@[simp] theorem iBi_list_tup (xs : List I) : iBi .list [.tup xs] = some (lstV xs) := id rfl
@[simp] theorem iBi_tuple_lst (xs : List I) : iBi .tuple [.lst xs] = some (.im (.tup xs)) := id rfl
@[simp] theorem iBi_tuple_tup (xs : List I) : iBi .tuple [.tup xs] = some (.im (.tup xs)) := id rfl
@[simp] theorem iBi_int_int (i : Int) : iBi .int [.int i] = some (.im (.int i)) := id rfl
@[simp] theorem iBi_int_bl (b : Bool) : iBi .int [.bl b] = some (.im (.int (if b then 1 else 0))) := id rfl
@[simp] theorem iBi_max (i j : Int) : iBi .max [.int i, .int j] = some (.im (.int (if j > i then j else i))) := id rfl
@[simp] theorem iBi_min (i j : Int) : iBi .min [.int i, .int j] = some (.im (.int (if j < i then j else i))) := id rfl
@[simp] theorem iBi_all (xs : List I) : iBi .all [.lst xs] = (iBools xs).map fun bs => .im (.bl (bs.all id)) := id rfl
@[simp] theorem iBi_any (xs : List I) : iBi .any [.lst xs] = (iBools xs).map fun bs => .im (.bl (bs.any id)) := id rfl
@[simp] theorem iBi_sum (xs : List I) : iBi .sum [.lst xs] = (iInts xs).map fun bs => .im (.int bs.sum) := id rfl
@[simp] theorem iBi_dict_lst (xs : List I) : iBi .dict [.lst xs] = (iPairs ([], []) xs).map dicV := id rfl
@[simp] theorem iBi_dict_dic (ks xs : List I) : iBi .dict [.dic ks xs] = some (dicV (ks, xs)) := id rfl
@[simp] theorem iBools_map (bs : List Bool) : iBools (bs.map .bl) = some bs := by
  induction bs with
  | nil => rfl
  | cons b bs ih => simp only [List.map_cons, iBools, ih, Option.map_some]
@[simp] theorem iWalk_tup (xs : List I) : iWalk (.tup xs) = some xs := id rfl
@[simp] theorem iWalk_lst (xs : List I) : iWalk (.lst xs) = some xs := id rfl
@[simp] theorem iWalk_str (x : Str) : iWalk (.str x) = some (iSigns x) := id rfl
@[simp] theorem iItems_tup (xs : List I) : iItems (.tup xs) = some xs := id rfl
@[simp] theorem iItems_lst (xs : List I) : iItems (.lst xs) = some xs := id rfl
@[simp] theorem mkTup_nil : mkTup [] = .im (.tup []) := id rfl
@[simp] theorem mkTup1 (a : I) : mkTup [.im a] = .im (.tup [a]) := id rfl
@[simp] theorem mkTup2 (a b : I) : mkTup [.im a, .im b] = .im (.tup [a, b]) := id rfl
@[simp] theorem mkTup3 (a b c : I) : mkTup [.im a, .im b, .im c] = .im (.tup [a, b, c]) := id rfl
@[simp] theorem mkTup4 (a b c d : I) : mkTup [.im a, .im b, .im c, .im d] = .im (.tup [a, b, c, d]) := id rfl
@[simp] theorem mkTup5 (a b c d e : I) : mkTup [.im a, .im b, .im c, .im d, .im e] = .im (.tup [a, b, c, d, e]) := id rfl
@[simp] theorem ixOf_zero (n : Nat) : ixOf (n + 1) 0 = some 0 := by simp [ixOf]
@[simp] theorem ixOf_one (n : Nat) : ixOf (n + 2) 1 = some 1 := by simp [ixOf]; omega
@[simp] theorem ixOf_two (n : Nat) : ixOf (n + 3) 2 = some 2 := by simp [ixOf]; omega
@[simp] theorem ixOf_three (n : Nat) : ixOf (n + 4) 3 = some 3 := by simp [ixOf]; omega
@[simp] theorem ixOf_four (n : Nat) : ixOf (n + 5) 4 = some 4 := by simp [ixOf]; omega
theorem ixOf_nat {n i : Nat} (h : i < n) : ixOf n (i : Int) = some i := by simp [ixOf, h]
@[simp] theorem vSet_lstV (xs : List I) (i : Int) (v : I) : vSet (lstV xs) (.int i) (.im v) = (ixOf xs.length i).map fun j => lstV (xs.set j v) := by
  have h : ∀ j, V.lst ((xs.map V.im).set j (.im v)) = lstV (xs.set j v) := by intro j; simp [lstV, List.map_set]
  simp only [vSet, lstV, List.length_map]
  cases ixOf xs.length i with
  | none => rfl
  | some j => simp only [Option.map_some, h] <;> rfl
end ops
/-! ### loops -/
def forN (step : I → VE → R VFl) (xs : List I) : R VFl → R VFl := fun r => r.bind fun fl E1 => (match fl with
      | .nx => vforGo step xs E1
      | .ct => vforGo step xs E1
      | .bk => .ok .nx E1
      | .rt v => .ok (.rt v) E1)
@[simp] theorem vforGo_nil (step : I → VE → R VFl) (E : VE) : vforGo step [] E = .ok .nx E := id rfl
@[simp] theorem vforGo_cons (step : I → VE → R VFl) (x : I) (xs : List I) (E : VE) : vforGo step (x :: xs) E = forN step xs (step x E) := id rfl
@[simp] theorem forN_nx (step : I → VE → R VFl) (xs : List I) (E : VE) : forN step xs (.ok .nx E) = vforGo step xs E := id rfl
@[simp] theorem forN_ct (step : I → VE → R VFl) (xs : List I) (E : VE) : forN step xs (.ok .ct E) = vforGo step xs E := id rfl
@[simp] theorem forN_bk (step : I → VE → R VFl) (xs : List I) (E : VE) : forN step xs (.ok .bk E) = .ok .nx E := id rfl
@[simp] theorem forN_rt (step : I → VE → R VFl) (xs : List I) (v : V) (E : VE) : forN step xs (.ok (.rt v) E) = .ok (.rt v) E := id rfl
def lcN (step : I → VE → R (Option V)) (xs : List I) (acc : List V) : R (Option V) → R (List V)
  | .ok (some y) E1 => vlcGo step xs (acc ++ [y]) E1
  | .ok none E1 => vlcGo step xs acc E1
  | _ => .bad
@[simp] theorem vlcGo_nil (step : I → VE → R (Option V)) (acc : List V) (E : VE) : vlcGo step [] acc E = .ok acc E := id rfl
@[simp] theorem vlcGo_cons (step : I → VE → R (Option V)) (x : I) (xs : List I) (acc : List V) (E : VE) (h : acc.length < 1000) : vlcGo step (x :: xs) acc E = lcN step xs acc (step x E) := by
  have : acc.length < big := by have : big = 16777216 := rfl; omega
  simp only [vlcGo, if_pos this, lcN] <;> rfl
@[simp] theorem lcN_some (step : I → VE → R (Option V)) (xs : List I) (acc : List V) (y : V) (E : VE) : lcN step xs acc (.ok (some y) E) = vlcGo step xs (acc ++ [y]) E := id rfl
@[simp] theorem lcN_none (step : I → VE → R (Option V)) (xs : List I) (acc : List V) (E : VE) : lcN step xs acc (.ok none E) = vlcGo step xs acc E := id rfl
theorem vforGo_fold {α : Type} {step : I → VE → R VFl} (mk : α → VE) (f : α → I → α) : ∀ (xs : List I) (a : α), (∀ x ∈ xs, ∀ a, step x (mk a) = .ok .nx (mk (f a x))) → vforGo step xs (mk a) = .ok .nx (mk (xs.foldl f a))
  | [], a, _ => rfl
  | x :: xs, a, h => by
    simp only [vforGo, h x (List.mem_cons_self ..), R.bind, List.foldl_cons]
    exact vforGo_fold mk f xs _ fun y hy => h y (List.mem_cons_of_mem _ hy)
theorem vforGo_inv {step : I → VE → R VFl} (P : List I → VE → Prop) (hs : ∀ x xs E, P (x :: xs) E → ∃ E1, step x E = .ok .nx E1 ∧ P xs E1) : ∀ xs E, P xs E → ∃ E', vforGo step xs E = .ok .nx E' ∧ P [] E'
  | [], E, h => ⟨E, rfl, h⟩
  | x :: xs, E, h => by
    obtain ⟨E1, e, h1⟩ := hs x xs E h
    obtain ⟨E', e', h'⟩ := vforGo_inv P hs xs E1 h1
    exact ⟨E', by simp only [vforGo, e, R.bind, e'], h'⟩
theorem vlcGo_map {step : I → VE → R (Option V)} {E : VE} (f : I → I) : ∀ (xs ys : List I), ys.length + xs.length ≤ big → (∀ x ∈ xs, step x E = .ok (some (.im (f x))) E) → vlcGo step xs (ys.map .im) E = .ok ((ys ++ xs.map f).map .im) E
  | [], ys, _, _ => by simp [vlcGo]
  | x :: xs, ys, hb, h => by
    have hl : (ys.map V.im).length < big := by simp at hb ⊢; omega
    simp only [vlcGo, if_pos hl, h x (List.mem_cons_self ..)]
    have := vlcGo_map f xs (ys ++ [f x]) (by simp at hb ⊢; omega) fun y hy => h y (List.mem_cons_of_mem _ hy)
    simp only [List.map_append, List.map_cons, List.map_nil] at this ⊢
    rw [this]; simp
theorem vlcGo_map0 {step : I → VE → R (Option V)} {E : VE} (f : I → I) (xs : List I) (hb : xs.length ≤ big) (h : ∀ x ∈ xs, step x E = .ok (some (.im (f x))) E) : vlcGo step xs [] E = .ok ((xs.map f).map .im) E := by
  have := vlcGo_map f xs [] (by simpa using hb) h
  simpa using this
theorem vlcGo_filter {step : I → VE → R (Option V)} {E : VE} (f : I → Option I) : ∀ (xs ys : List I), ys.length + xs.length ≤ big → (∀ x ∈ xs, step x E = .ok ((f x).map .im) E) → vlcGo step xs (ys.map .im) E = .ok ((ys ++ xs.filterMap f).map .im) E
  | [], ys, _, _ => by simp [vlcGo]
  | x :: xs, ys, hb, h => by
    have hl : (ys.map V.im).length < big := by simp at hb ⊢; omega
    simp only [vlcGo, if_pos hl, h x (List.mem_cons_self ..)]
    cases hf : f x with
    | none =>
      have := vlcGo_filter f xs ys (by simp at hb ⊢; omega) fun y hy => h y (List.mem_cons_of_mem _ hy)
      simp only [Option.map_none, this, List.filterMap_cons, hf]
    | some z =>
      have := vlcGo_filter f xs (ys ++ [z]) (by simp at hb ⊢; omega) fun y hy => h y (List.mem_cons_of_mem _ hy)
      simp only [List.map_append, List.map_cons, List.map_nil] at this
      simp only [Option.map_some, this, List.filterMap_cons, hf]
      simp
/-- a loop that puts more and more behind -/
theorem vforGo_acc {β : Type} {step : I → VE → R VFl} (mk : List I → VE) (enc : β → I) (g : β → List I) (N : Nat) : ∀ (es : List β) (a : List I), (∀ e ∈ es, ∀ a, a.length + (g e).length ≤ N → step (enc e) (mk a) = .ok .nx (mk (a ++ g e))) → a.length + (es.flatMap g).length ≤ N → vforGo step (es.map enc) (mk a) = .ok .nx (mk (a ++ es.flatMap g))
  | [], a, _, _ => by simp [vforGo]
  | e :: es, a, h, hb => by
    simp only [List.flatMap_cons, List.length_append] at hb
    simp only [List.map_cons, vforGo, h e (List.mem_cons_self ..) a (by omega), R.bind]
    have := vforGo_acc mk enc g N es (a ++ g e) (fun x hx => h x (List.mem_cons_of_mem _ hx)) (by simp only [List.length_append]; omega)
    rw [this]; simp
theorem vlcGo_mapE {β : Type} {step : I → VE → R (Option V)} {E : VE} (enc : β → I) (f : β → I) (es : List β) (hb : es.length ≤ big) (h : ∀ e ∈ es, step (enc e) E = .ok (some (.im (f e))) E) : vlcGo step (es.map enc) [] E = .ok ((es.map f).map .im) E := by
  have key : ∀ (es : List β) (ys : List I), ys.length + es.length ≤ big → (∀ e ∈ es, step (enc e) E = .ok (some (.im (f e))) E) → vlcGo step (es.map enc) (ys.map .im) E = .ok ((ys ++ es.map f).map .im) E := by
    intro es
    induction es with
    | nil => intro ys _ _; simp [vlcGo]
    | cons e es ih =>
      intro ys hb h
      have hl : (ys.map V.im).length < big := by simp at hb ⊢; omega
      simp only [List.map_cons, vlcGo, if_pos hl, h e (List.mem_cons_self ..)]
      have := ih (ys ++ [f e]) (by simp at hb ⊢; omega) fun y hy => h y (List.mem_cons_of_mem _ hy)
      simp only [List.map_append, List.map_cons, List.map_nil] at this ⊢
      rw [this]; simp
  have := key es [] (by simpa using hb) h
  simpa using this
theorem vlcGo_filterE {β : Type} {step : I → VE → R (Option V)} {E : VE} (enc : β → I) (c : β → Bool) (f : β → I) (es : List β) (hb : es.length ≤ big) (h : ∀ e ∈ es, step (enc e) E = .ok (if c e = true then some (.im (f e)) else none) E) : vlcGo step (es.map enc) [] E = .ok (((es.filter c).map f).map .im) E := by
  have key : ∀ (es : List β) (ys : List I), ys.length + es.length ≤ big → (∀ e ∈ es, step (enc e) E = .ok (if c e = true then some (.im (f e)) else none) E) → vlcGo step (es.map enc) (ys.map .im) E = .ok ((ys ++ (es.filter c).map f).map .im) E := by
    intro es
    induction es with
    | nil => intro ys _ _; simp [vlcGo]
    | cons e es ih =>
      intro ys hb h
      have hl : (ys.map V.im).length < big := by simp at hb ⊢; omega
      simp only [List.map_cons, vlcGo, if_pos hl, h e (List.mem_cons_self ..)]
      by_cases hc : c e = true
      · have := ih (ys ++ [f e]) (by simp at hb ⊢; omega) fun y hy => h y (List.mem_cons_of_mem _ hy)
        simp only [List.map_append, List.map_cons, List.map_nil] at this ⊢
        rw [if_pos hc]
        simp only [this, List.filter_cons, hc, if_true]; simp
      · have := ih ys (by simp at hb ⊢; omega) fun y hy => h y (List.mem_cons_of_mem _ hy)
        rw [if_neg hc]
        simp only [this, List.filter_cons, hc]; simp
  have := key es [] (by simpa using hb) h
  simpa using this
@[simp] theorem mkL_map (xs : List I) : mkL (xs.map .im) = lstV xs := rfl
@[simp] theorem mkL_comp {β : Type} (f : β → I) (xs : List β) : mkL (xs.map (V.im ∘ f)) = lstV (xs.map f) := by simp [mkL, lstV]
@[simp] theorem mkL_comp' {β : Type} (f : β → I) (xs : List β) : mkL (xs.map fun x => V.im (f x)) = lstV (xs.map f) := by simp [mkL, lstV, Function.comp_def]
@[simp] theorem lst_comp {β : Type} (f : β → I) (xs : List β) : V.obj .lst (xs.map (V.im ∘ f)) = lstV (xs.map f) := by simp [lstV]
@[simp] theorem lst_map (xs : List I) : V.obj .lst (xs.map .im) = lstV xs := rfl
@[simp] theorem iRange_nat (n : Nat) : iRange 0 (n : Int) = (List.range n).map fun (k : Nat) => I.int (k : Int) := by simp [iRange]
theorem inBound_nat {n : Nat} (h : n < 4611686018427387904) : inBound (n : Int) = true := by
  show decide (n < 4611686018427387904) = true
  simpa using h
end Wn
end
section
namespace Wn
open PySem
def f_inner_turned : Fn := ⟨["part"], 1, (.cons (.ifs (.or_ (.cmp .eq (.idx (.var 0) (.int 0)) (.str "give")) (.cmp .eq (.idx (.var 0) (.int 0)) (.str "ask"))) (.cons (.ret (.tup .nil)) .nil) .nil) (.cons (.ifs (.cmp .eq (.idx (.var 0) (.int 0)) (.str "if")) (.cons (.ret (.slice (.var 0) (.some (.int 2)) .none)) .nil) .nil) (.cons (.ret (.slice (.var 0) (.some (.int 3)) .none)) .nil)))⟩
def b1_words_in : Ss := (.cons (.ex (.bm .extend (.var 1) (.cons (.call "words_in" (.cons (.var 2) .nil)) .nil))) (.cons (.kill [2]) .nil))
def f_words_in : Fn := ⟨["part", "found", "one"], 1, (.cons (.asg 1 (.lst .nil)) (.cons (.ifs (.or_ (.cmp .eq (.idx (.var 0) (.int 0)) (.str "let")) (.cmp .eq (.idx (.var 0) (.int 0)) (.str "tell"))) (.cons (.ex (.bm .append (.var 1) (.cons (.idx (.var 0) (.int 1)) .nil))) .nil) .nil) (.cons (.ifs (.cmp .eq (.idx (.var 0) (.int 0)) (.str "post")) (.cons (.ex (.bm .append (.var 1) (.cons (.idx (.var 0) (.int 2)) .nil))) .nil) .nil) (.cons (.for_ (.nm 2) (.of (.call "inner_turned" (.cons (.var 0) .nil))) b1_words_in) (.cons (.ret (.mov (.var 1))) .nil)))))⟩
def b1_hands_in : Ss := (.cons (.ex (.bm .extend (.var 1) (.cons (.call "hands_in" (.cons (.var 2) .nil)) .nil))) (.cons (.kill [2]) .nil))
def f_hands_in : Fn := ⟨["part", "found", "one"], 1, (.cons (.asg 1 (.ite (.cmp .eq (.idx (.var 0) (.int 0)) (.str "post")) (.lst (.cons (.idx (.var 0) (.int 1)) .nil)) (.lst .nil))) (.cons (.for_ (.nm 2) (.of (.call "inner_turned" (.cons (.var 0) .nil))) b1_hands_in) (.cons (.ret (.mov (.var 1))) .nil)))⟩
def t1_word_of : Ex := (.cmp .ge (.var 0) (.int 26))
def b1_word_of : Ss := (.cons (.asg 0 (.bin .fdiv (.var 0) (.int 26))) (.cons (.asg 1 (.bin .add (.idx (.glo "LETTERS") (.bin .mod (.var 0) (.int 26))) (.var 1))) .nil))
def f_word_of : Fn := ⟨["k", "found"], 1, (.cons (.asg 1 (.idx (.glo "LETTERS") (.bin .mod (.var 0) (.int 26)))) (.cons (.whl t1_word_of b1_word_of) (.cons (.ret (.bin .add (.var 1) (.str "q"))) .nil)))⟩
def l1_words_by : Ex := (.tup (.cons (.var 2) (.cons (.call "word_of" (.cons (.var 1) .nil)) .nil)))
def f_words_by : Fn := ⟨["words", "k", "word"], 1, (.cons (.ret (.bi .dict (.cons (.lc l1_words_by (.tup [1, 2]) (.enum (.var 0)) .none) .nil))) .nil)⟩
def l1_term_by : Ex := (.call "term_by" (.cons (.var 2) (.cons (.var 1) .nil)))
def l2_term_by : Ex := (.call "term_by" (.cons (.var 2) (.cons (.var 1) .nil)))
def f_term_by : Fn := ⟨["term", "words", "part"], 2, (.cons (.ifs (.cmp .eq (.idx (.var 0) (.int 0)) (.str "number")) (.cons (.ret (.mov (.var 0))) .nil) .nil) (.cons (.ifs (.cmp .eq (.idx (.var 0) (.int 0)) (.str "name")) (.cons (.ret (.tup (.cons (.str "name") (.cons (.idx (.var 1) (.idx (.var 0) (.int 1))) .nil)))) .nil) .nil) (.cons (.ifs (.cmp .eq (.idx (.var 0) (.int 0)) (.str "ask")) (.cons (.ret (.tup (.cons (.str "ask") (.cons (.idx (.var 0) (.int 1)) (.cons (.bi .tuple (.cons (.lc l1_term_by (.nm 2) (.of (.idx (.var 0) (.int 2))) .none) .nil)) .nil))))) .nil) .nil) (.cons (.ifs (.cmp .eq (.idx (.var 0) (.int 0)) (.str "let")) (.cons (.ret (.tup (.cons (.str "let") (.cons (.idx (.var 1) (.idx (.var 0) (.int 1))) (.cons (.call "term_by" (.cons (.idx (.var 0) (.int 2)) (.cons (.var 1) .nil))) (.cons (.call "term_by" (.cons (.idx (.var 0) (.int 3)) (.cons (.var 1) .nil))) .nil)))))) .nil) .nil) (.cons (.ret (.bin .add (.slice (.var 0) .none (.some (.int 1))) (.bi .tuple (.cons (.lc l2_term_by (.nm 2) (.of (.slice (.var 0) (.some (.int 1)) .none)) .none) .nil)))) .nil)))))⟩
def l1_part_by : Ex := (.call "term_by" (.cons (.var 3) (.cons (.var 1) .nil)))
def f_part_by : Fn := ⟨["part", "words", "hands", "one", "inner"], 3, (.cons (.ifs (.cmp .eq (.idx (.var 0) (.int 0)) (.str "give")) (.cons (.ret (.tup (.cons (.str "give") (.cons (.idx (.var 2) (.idx (.var 0) (.int 1))) (.cons (.call "term_by" (.cons (.idx (.var 0) (.int 2)) (.cons (.var 1) .nil))) .nil))))) .nil) .nil) (.cons (.ifs (.cmp .eq (.idx (.var 0) (.int 0)) (.str "ask")) (.cons (.ret (.tup (.cons (.str "ask") (.cons (.idx (.var 0) (.int 1)) (.cons (.bi .tuple (.cons (.lc l1_part_by (.nm 3) (.of (.idx (.var 0) (.int 2))) .none) .nil)) (.cons (.idx (.var 2) (.idx (.var 0) (.int 3))) .nil)))))) .nil) .nil) (.cons (.ifs (.cmp .eq (.idx (.var 0) (.int 0)) (.str "if")) (.cons (.ret (.tup (.cons (.str "if") (.cons (.call "term_by" (.cons (.idx (.var 0) (.int 1)) (.cons (.var 1) .nil))) (.cons (.call "part_by" (.cons (.idx (.var 0) (.int 2)) (.cons (.var 1) (.cons (.var 2) .nil)))) (.cons (.call "part_by" (.cons (.idx (.var 0) (.int 3)) (.cons (.var 1) (.cons (.var 2) .nil)))) .nil)))))) .nil) .nil) (.cons (.ifs (.cmp .eq (.idx (.var 0) (.int 0)) (.str "post")) (.cons (.asg 4 (.tup (.cons (.call "part_by" (.cons (.idx (.var 0) (.int 3)) (.cons (.var 1) (.cons (.var 2) .nil)))) (.cons (.call "part_by" (.cons (.idx (.var 0) (.int 4)) (.cons (.var 1) (.cons (.var 2) .nil)))) .nil)))) (.cons (.ret (.bin .add (.tup (.cons (.str "post") (.cons (.idx (.var 2) (.idx (.var 0) (.int 1))) (.cons (.idx (.var 1) (.idx (.var 0) (.int 2))) .nil)))) (.var 4))) .nil)) .nil) (.cons (.ret (.tup (.cons (.idx (.var 0) (.int 0)) (.cons (.idx (.var 1) (.idx (.var 0) (.int 1))) (.cons (.call "term_by" (.cons (.idx (.var 0) (.int 2)) (.cons (.var 1) .nil))) (.cons (.call "part_by" (.cons (.idx (.var 0) (.int 3)) (.cons (.var 1) (.cons (.var 2) .nil)))) .nil)))))) .nil)))))⟩
def l1_anew : Ex := (.idx (.var 5) (.var 7))
def b1_anew : Ss := (.cons (.asg 5 (.call "words_by" (.cons (.bin .add (.bi .list (.cons (.var 3) .nil)) (.call "words_in" (.cons (.var 4) .nil))) .nil))) (.cons (.asg 6 (.call "words_by" (.cons (.call "hands_in" (.cons (.var 4) .nil)) .nil))) (.cons (.seti (.var 6) (.glo "HOME") (.glo "HOME")) (.cons (.ex (.bm .append (.var 1) (.cons (.tup (.cons (.var 2) (.cons (.bi .tuple (.cons (.lc l1_anew (.nm 7) (.of (.var 3)) .none) .nil)) (.cons (.call "part_by" (.cons (.var 4) (.cons (.var 5) (.cons (.var 6) .nil)))) .nil)))) .nil))) (.cons (.kill [2, 3, 4, 5, 6]) .nil)))))
def f_anew : Fn := ⟨["turned", "found", "name", "names", "body", "words", "hands", "one"], 1, (.cons (.asg 1 (.lst .nil)) (.cons (.for_ (.tup [2, 3, 4]) (.of (.var 0)) b1_anew) (.cons (.ret (.bi .tuple (.cons (.var 1) .nil))) .nil)))⟩
def f_are_alike : Fn := ⟨["turned", "other"], 2, (.cons (.ret (.cmp .eq (.call "anew" (.cons (.var 0) .nil)) (.call "anew" (.cons (.var 1) .nil)))) .nil)⟩
def f__law_cell_at : Fn := ⟨["script", "k"], 2, (.cons (.ifs (.cmp .lt (.var 1) (.bi .len (.cons (.var 0) .nil))) (.cons (.ret (.idx (.var 0) (.var 1))) .nil) .nil) (.cons (.ret (.int 0)) .nil))⟩
def b1__law_tape : Ss := (.cons (.asg 4 (.bin .mod (.bin .add (.bin .add (.bin .add (.bin .mul (.var 4) (.var 4)) (.bin .mul (.int 40692) (.var 6))) (.var 2)) (.int 7)) (.var 3))) (.cons (.asg 5 (.bin .add (.bin .mul (.var 5) (.var 3)) (.var 4))) (.cons (.kill [6]) .nil)))
def f__law_tape : Fn := ⟨["script", "k", "cell", "p", "one", "found", "turn"], 2, (.cons (.asg 2 (.call "_law_cell_at" (.cons (.var 0) (.cons (.var 1) .nil)))) (.cons (.ifs (.cmp .eq (.var 2) (.int 0)) (.cons (.ret (.lst (.cons (.int 0) .nil))) .nil) .nil) (.cons (.ifs (.cmp .ge (.var 2) (.bin .pow (.int 10) (.int 18))) (.cons (.ret (.lst (.cons (.bin .sub (.var 2) (.bin .pow (.int 10) (.int 18))) .nil))) .nil) .nil) (.cons (.asg 3 (.int 2305843009213693951)) (.cons (.asg 4 (.bin .mod (.bin .add (.bin .add (.bin .mul (.var 2) (.int 69621)) (.bin .mul (.int 40014) (.var 1))) (.int 17)) (.var 3))) (.cons (.asg 5 (.var 4)) (.cons (.for_ (.nm 6) (.rng1 (.int 20)) b1__law_tape) (.cons (.ret (.lst (.cons (.var 5) .nil))) .nil))))))))⟩
def f__law_digit : Fn := ⟨["tape", "many", "found"], 2, (.cons (.asg 2 (.bin .mod (.idx (.var 0) (.int 0)) (.var 1))) (.cons (.seti (.var 0) (.int 0) (.bin .fdiv (.idx (.var 0) (.int 0)) (.var 1))) (.cons (.ret (.mov (.var 2))) .nil)))⟩
def l1__law_words : Ex := (.bin .add (.idx (.var 2) (.bin .mod (.bin .add (.var 4) (.var 6)) (.int 26))) (.var 5))
def l2__law_words : Ex := (.bin .mul (.idx (.var 2) (.bin .mod (.bin .add (.var 4) (.bin .fdiv (.var 6) (.int 8))) (.int 26))) (.bin .add (.int 1) (.bin .mod (.var 6) (.int 8))))
def l3__law_words : Ex := (.idx (.var 7) (.bin .mod (.bin .add (.var 4) (.var 6)) (.int 18)))
def f__law_words : Fn := ⟨["tape", "many", "letters", "way", "turn", "ends", "k", "some"], 2, (.cons (.asg 2 (.str "abcdefghijklmnopqrstuvwxyz")) (.cons (.asg 3 (.call "_law_digit" (.cons (.var 0) (.cons (.int 3) .nil)))) (.cons (.asg 4 (.call "_law_digit" (.cons (.var 0) (.cons (.int 26) .nil)))) (.cons (.ifs (.cmp .eq (.var 3) (.int 0)) (.cons (.asg 5 (.idx (.lst (.cons (.str "") (.cons (.str "a") (.cons (.str "omelons") .nil)))) (.call "_law_digit" (.cons (.var 0) (.cons (.int 3) .nil))))) (.cons (.ret (.lc l1__law_words (.nm 6) (.rng1 (.var 1)) .none)) .nil)) .nil) (.cons (.ifs (.cmp .eq (.var 3) (.int 1)) (.cons (.ret (.lc l2__law_words (.nm 6) (.rng1 (.var 1)) .none)) .nil) .nil) (.cons (.asg 7 (.lst (.cons (.str "give") (.cons (.str "ask") (.cons (.str "post") (.cons (.str "plus") (.cons (.str "less") (.cons (.str "name") (.cons (.str "number") (.cons (.str "to") (.cons (.str "as") (.cons (.str "f") (.cons (.str "x") .nil))))))))))))) (.cons (.asg 7 (.bin .add (.var 7) (.lst (.cons (.str "aq") (.cons (.str "bq") (.cons (.str "lets") (.cons (.str "ifs") (.cons (.str "ina") (.cons (.str "homes") (.cons (.str "q") .nil)))))))))) (.cons (.ret (.lc l3__law_words (.nm 6) (.rng1 (.var 1)) .none)) .nil))))))))⟩
def f__law_number : Fn := ⟨["tape", "way"], 1, (.cons (.asg 1 (.call "_law_digit" (.cons (.var 0) (.cons (.int 6) .nil)))) (.cons (.ifs (.cmp .eq (.var 1) (.int 5)) (.cons (.ret (.call "_law_digit" (.cons (.var 0) (.cons (.int 1000) .nil)))) .nil) .nil) (.cons (.ret (.idx (.lst (.cons (.int 0) (.cons (.int 1) (.cons (.int 1) (.cons (.int 2) (.cons (.int 3) .nil)))))) (.var 1))) .nil)))⟩
def f__law_leaf : Fn := ⟨["tape", "known", "around"], 3, (.cons (.ifs (.and_ (.cmp .ne (.var 2) (.lst .nil)) (.cmp .gt (.call "_law_digit" (.cons (.var 0) (.cons (.int 3) .nil))) (.int 0))) (.cons (.ret (.tup (.cons (.str "name") (.cons (.idx (.var 2) (.call "_law_digit" (.cons (.var 0) (.cons (.bi .len (.cons (.var 2) .nil)) .nil)))) .nil)))) .nil) .nil) (.cons (.ret (.tup (.cons (.str "number") (.cons (.call "_law_number" (.cons (.var 0) .nil)) .nil)))) .nil))⟩
def b1__law_shares : Ss := (.cons (.asg 6 (.call "_law_digit" (.cons (.var 0) (.cons (.bin .add (.var 4) (.int 1)) .nil)))) (.cons (.seti (.var 3) (.var 5) (.bin .add (.idx (.var 3) (.var 5)) (.var 6))) (.cons (.asg 4 (.bin .sub (.var 4) (.var 6))) (.cons (.kill [5, 6]) .nil))))
def f__law_shares : Fn := ⟨["tape", "room", "many", "found", "left", "k", "more"], 3, (.cons (.asg 3 (.bin .mul (.lst (.cons (.int 1) .nil)) (.var 2))) (.cons (.asg 4 (.bin .sub (.var 1) (.var 2))) (.cons (.for_ (.nm 5) (.rng1 (.var 2)) b1__law_shares) (.cons (.ret (.mov (.var 3))) .nil))))⟩
def f__law_less_one : Fn := ⟨["around"], 1, (.cons (.ifs (.cmp .eq (.var 0) (.lst .nil)) (.cons (.ret (.tup (.cons (.str "number") (.cons (.int 0) .nil)))) .nil) .nil) (.cons (.ret (.tup (.cons (.str "less") (.cons (.tup (.cons (.str "name") (.cons (.idx (.var 0) (.int 0)) .nil))) (.cons (.tup (.cons (.str "number") (.cons (.int 1) .nil))) .nil))))) .nil))⟩
def f__law_parts : Fn := ⟨["term"], 1, (.cons (.ifs (.cmp .isin (.idx (.var 0) (.int 0)) (.tup (.cons (.str "number") (.cons (.str "name") .nil)))) (.cons (.ret (.tup .nil)) .nil) .nil) (.cons (.ifs (.cmp .eq (.idx (.var 0) (.int 0)) (.str "ask")) (.cons (.ret (.idx (.var 0) (.int 2))) .nil) .nil) (.cons (.ret (.slice (.var 0) (.some (.bin .add (.int 1) (.bi .int (.cons (.cmp .eq (.idx (.var 0) (.int 0)) (.str "let")) .nil)))) .none)) .nil)))⟩
def f__law_simple : Fn := ⟨["tape", "around", "deep", "one"], 3, (.cons (.ifs (.or_ (.cmp .eq (.var 2) (.int 0)) (.cmp .gt (.call "_law_digit" (.cons (.var 0) (.cons (.int 3) .nil))) (.int 0))) (.cons (.ret (.call "_law_leaf" (.cons (.var 0) (.cons (.dic .nil) (.cons (.var 1) .nil))))) .nil) .nil) (.cons (.asg 3 (.call "_law_simple" (.cons (.var 0) (.cons (.var 1) (.cons (.bin .sub (.var 2) (.int 1)) .nil))))) (.cons (.ret (.tup (.cons (.idx (.lst (.cons (.str "plus") (.cons (.str "less") .nil))) (.call "_law_digit" (.cons (.var 0) (.cons (.int 2) .nil)))) (.cons (.mov (.var 3)) (.cons (.call "_law_simple" (.cons (.var 0) (.cons (.var 1) (.cons (.bin .sub (.var 2) (.int 1)) .nil)))) .nil))))) .nil)))⟩
def f__law_some_hand : Fn := ⟨["tape", "known", "hands"], 3, (.cons (.ifs (.or_ (.idx (.var 1) (.str "straight")) (.cmp .gt (.call "_law_digit" (.cons (.var 0) (.cons (.int 3) .nil))) (.int 0))) (.cons (.ret (.idx (.var 2) (.neg (.int 1)))) .nil) .nil) (.cons (.ret (.idx (.var 2) (.call "_law_digit" (.cons (.var 0) (.cons (.bi .len (.cons (.var 2) .nil)) .nil))))) .nil))⟩
def b1__law_end : Ss := (.cons (.ifs (.and_ (.cmp .eq (.var 7) (.int 0)) (.cmp .gt (.call "_law_digit" (.cons (.var 0) (.cons (.int 4) .nil))) (.int 0))) (.cons (.ex (.bm .append (.var 6) (.cons (.call "_law_less_one" (.cons (.var 2) .nil)) .nil))) .nil) (.cons (.ex (.bm .append (.var 6) (.cons (.call "_law_simple" (.cons (.var 0) (.cons (.var 2) (.cons (.int 1) .nil)))) .nil))) .nil)) (.cons (.kill [7]) .nil))
def f__law_end : Fn := ⟨["tape", "known", "around", "hands", "f", "hand", "some", "k"], 4, (.cons (.asg 4 (.idx (.idx (.var 1) (.str "errands")) (.call "_law_digit" (.cons (.var 0) (.cons (.bi .len (.cons (.idx (.var 1) (.str "errands")) .nil)) .nil))))) (.cons (.asg 5 (.call "_law_some_hand" (.cons (.var 0) (.cons (.var 1) (.cons (.var 3) .nil))))) (.cons (.ifs (.cmp .eq (.call "_law_digit" (.cons (.var 0) (.cons (.int 2) .nil))) (.int 0)) (.cons (.ret (.tup (.cons (.str "give") (.cons (.mov (.var 5)) (.cons (.call "_law_simple" (.cons (.var 0) (.cons (.var 2) (.cons (.int 1) .nil)))) .nil))))) .nil) .nil) (.cons (.asg 6 (.lst .nil)) (.cons (.for_ (.nm 7) (.rng1 (.idx (.idx (.var 1) (.str "heads")) (.var 4))) b1__law_end) (.cons (.ret (.tup (.cons (.str "ask") (.cons (.mov (.var 4)) (.cons (.bi .tuple (.cons (.var 6) .nil)) (.cons (.mov (.var 5)) .nil)))))) .nil))))))⟩
def f__law_part : Fn := ⟨["tape", "known", "around", "hands", "room", "deep", "word", "choice", "shares", "one", "x", "j", "term"], 6, (.cons (.ifs (.or_ (.cmp .lt (.var 4) (.int 3)) (.cmp .eq (.var 5) (.int 0))) (.cons (.ret (.call "_law_end" (.cons (.var 0) (.cons (.var 1) (.cons (.var 2) (.cons (.var 3) .nil)))))) .nil) .nil) (.cons (.asg 6 (.idx (.lst (.cons (.str "tell") (.cons (.str "let") (.cons (.str "if") (.cons (.str "if") (.cons (.str "post") (.cons (.str "post") (.cons (.str "post") (.cons (.str "post") .nil))))))))) (.call "_law_digit" (.cons (.var 0) (.cons (.int 8) .nil))))) (.cons (.ifs (.cmp .eq (.var 6) (.str "if")) (.cons (.asg 7 (.call "_law_simple" (.cons (.var 0) (.cons (.var 2) (.cons (.int 1) .nil))))) (.cons (.asg 8 (.call "_law_shares" (.cons (.var 0) (.cons (.bin .sub (.var 4) (.int 1)) (.cons (.int 2) .nil))))) (.cons (.asg 9 (.call "_law_part" (.cons (.var 0) (.cons (.var 1) (.cons (.var 2) (.cons (.var 3) (.cons (.idx (.var 8) (.int 0)) (.cons (.bin .sub (.var 5) (.int 1)) .nil)))))))) (.cons (.ret (.tup (.cons (.str "if") (.cons (.mov (.var 7)) (.cons (.mov (.var 9)) (.cons (.call "_law_part" (.cons (.var 0) (.cons (.var 1) (.cons (.var 2) (.cons (.var 3) (.cons (.idx (.var 8) (.int 1)) (.cons (.bin .sub (.var 5) (.int 1)) .nil))))))) .nil)))))) .nil)))) .nil) (.cons (.ifs (.cmp .eq (.idx (.var 1) (.str "words")) (.lst .nil)) (.cons (.ret (.call "_law_end" (.cons (.var 0) (.cons (.var 1) (.cons (.var 2) (.cons (.var 3) .nil)))))) .nil) .nil) (.cons (.asg 10 (.bm .pop (.idx (.var 1) (.str "words")) .nil)) (.cons (.ifs (.cmp .eq (.var 6) (.str "post")) (.cons (.asg 11 (.bm .pop (.idx (.var 1) (.str "posts")) .nil)) (.cons (.asg 8 (.call "_law_shares" (.cons (.var 0) (.cons (.bin .sub (.var 4) (.int 1)) (.cons (.int 2) .nil))))) (.cons (.asg 9 (.call "_law_part" (.cons (.var 0) (.cons (.var 1) (.cons (.bin .add (.var 2) (.lst (.cons (.var 10) .nil))) (.cons (.var 3) (.cons (.idx (.var 8) (.int 0)) (.cons (.bin .sub (.var 5) (.int 1)) .nil)))))))) (.cons (.ifs (.cmp .eq (.call "_law_digit" (.cons (.var 0) (.cons (.int 8) .nil))) (.int 0)) (.cons (.asg 9 (.tup (.cons (.str "give") (.cons (.call "_law_some_hand" (.cons (.var 0) (.cons (.var 1) (.cons (.var 3) .nil)))) (.cons (.tup (.cons (.str "name") (.cons (.var 10) .nil))) .nil))))) .nil) .nil) (.cons (.ret (.tup (.cons (.str "post") (.cons (.var 11) (.cons (.mov (.var 10)) (.cons (.mov (.var 9)) (.cons (.call "_law_part" (.cons (.var 0) (.cons (.var 1) (.cons (.var 2) (.cons (.bin .add (.var 3) (.lst (.cons (.var 11) .nil))) (.cons (.idx (.var 8) (.int 1)) (.cons (.bin .sub (.var 5) (.int 1)) .nil))))))) .nil))))))) .nil))))) .nil) (.cons (.asg 12 (.call "_law_simple" (.cons (.var 0) (.cons (.var 2) (.cons (.int 1) .nil))))) (.cons (.ret (.tup (.cons (.mov (.var 6)) (.cons (.var 10) (.cons (.mov (.var 12)) (.cons (.call "_law_part" (.cons (.var 0) (.cons (.var 1) (.cons (.bin .add (.var 2) (.lst (.cons (.var 10) .nil))) (.cons (.var 3) (.cons (.bin .sub (.var 4) (.int 1)) (.cons (.bin .sub (.var 5) (.int 1)) .nil))))))) .nil)))))) .nil))))))))⟩
def f__law_turned_body : Fn := ⟨["tape", "known", "names", "one", "two"], 3, (.cons (.ifs (.and_ (.cmp .ne (.var 2) (.lst .nil)) (.cmp .gt (.call "_law_digit" (.cons (.var 0) (.cons (.int 4) .nil))) (.int 0))) (.cons (.asg 3 (.call "_law_part" (.cons (.var 0) (.cons (.var 1) (.cons (.var 2) (.cons (.lst (.cons (.str "home") .nil)) (.cons (.idx (.var 1) (.str "room")) (.cons (.int 7) .nil)))))))) (.cons (.asg 4 (.call "_law_part" (.cons (.var 0) (.cons (.var 1) (.cons (.var 2) (.cons (.lst (.cons (.str "home") .nil)) (.cons (.int 3) (.cons (.int 2) .nil)))))))) (.cons (.ret (.tup (.cons (.str "if") (.cons (.tup (.cons (.str "name") (.cons (.idx (.var 2) (.int 0)) .nil))) (.cons (.mov (.var 3)) (.cons (.mov (.var 4)) .nil)))))) .nil))) .nil) (.cons (.ret (.call "_law_part" (.cons (.var 0) (.cons (.var 1) (.cons (.var 2) (.cons (.lst (.cons (.str "home") .nil)) (.cons (.idx (.var 1) (.str "room")) (.cons (.int 8) .nil)))))))) .nil))⟩
def b1__law_turned_book : Ss := (.cons (.seti (.var 5) (.var 6) (.idx (.lst (.cons (.int 1) (.cons (.int 2) (.cons (.int 1) (.cons (.int 0) (.cons (.int 3) (.cons (.int 4) .nil))))))) (.call "_law_digit" (.cons (.var 3) (.cons (.int 6) .nil))))) (.cons (.kill [6]) .nil))
def b2__law_turned_book : Ss := (.cons (.asg 10 (.call "_law_tape" (.cons (.var 0) (.cons (.bin .add (.bin .add (.var 1) (.int 1)) (.var 9)) .nil)))) (.cons (.asg 11 (.call "_law_words" (.cons (.var 10) (.cons (.int 16) .nil)))) (.cons (.asg 12 (.slice (.var 11) .none (.some (.idx (.var 5) (.idx (.var 4) (.var 9)))))) (.cons (.asg 13 (.dic (.cons (.str "errands") (.cons (.var 4) (.cons (.str "heads") (.cons (.var 5) (.cons (.str "words") (.cons (.slice (.var 11) (.some (.bi .len (.cons (.var 12) .nil))) .none) (.cons (.str "room") (.cons (.var 7) .nil)))))))))) (.cons (.seti (.var 13) (.str "posts") (.call "_law_words" (.cons (.var 10) (.cons (.int 16) .nil)))) (.cons (.seti (.var 13) (.str "straight") (.var 2)) (.cons (.ex (.bm .append (.var 8) (.cons (.tup (.cons (.idx (.var 4) (.var 9)) (.cons (.bi .tuple (.cons (.var 12) .nil)) (.cons (.call "_law_turned_body" (.cons (.var 10) (.cons (.var 13) (.cons (.var 12) .nil)))) .nil)))) .nil))) (.cons (.kill [9, 10, 11, 12, 13]) .nil))))))))
def f__law_turned_book : Fn := ⟨["script", "start", "straight", "head", "errands", "heads", "f", "room", "found", "k", "tape", "words", "names", "known"], 3, (.cons (.asg 3 (.call "_law_tape" (.cons (.var 0) (.cons (.var 1) .nil)))) (.cons (.asg 4 (.call "_law_words" (.cons (.var 3) (.cons (.idx (.lst (.cons (.int 1) (.cons (.int 2) (.cons (.int 2) (.cons (.int 3) (.cons (.int 4) (.cons (.int 6) .nil))))))) (.call "_law_digit" (.cons (.var 3) (.cons (.int 6) .nil)))) .nil)))) (.cons (.asg 5 (.dic .nil)) (.cons (.for_ (.nm 6) (.of (.var 4)) b1__law_turned_book) (.cons (.asg 7 (.idx (.lst (.cons (.int 3) (.cons (.int 5) (.cons (.int 7) (.cons (.int 9) .nil))))) (.call "_law_digit" (.cons (.var 3) (.cons (.int 4) .nil))))) (.cons (.asg 8 (.lst .nil)) (.cons (.for_ (.nm 9) (.rng1 (.bi .len (.cons (.var 4) .nil))) b2__law_turned_book) (.cons (.ret (.bi .tuple (.cons (.var 8) .nil))) .nil))))))))⟩
def f__law_inner : Fn := ⟨["part"], 1, (.cons (.ifs (.cmp .isin (.idx (.var 0) (.int 0)) (.tup (.cons (.str "give") (.cons (.str "ask") .nil)))) (.cons (.ret (.tup .nil)) .nil) .nil) (.cons (.ret (.slice (.var 0) (.some (.bin .add (.int 2) (.bi .int (.cons (.cmp .ne (.idx (.var 0) (.int 0)) (.str "if")) .nil)))) .none)) .nil))⟩
def f__law_simples : Fn := ⟨["part"], 1, (.cons (.ifs (.cmp .eq (.idx (.var 0) (.int 0)) (.str "ask")) (.cons (.ret (.idx (.var 0) (.int 2))) .nil) .nil) (.cons (.ifs (.cmp .eq (.idx (.var 0) (.int 0)) (.str "post")) (.cons (.ret (.tup .nil)) .nil) .nil) (.cons (.ret (.tup (.cons (.idx (.var 0) (.bin .sub (.int 2) (.bi .int (.cons (.cmp .eq (.idx (.var 0) (.int 0)) (.str "if")) .nil)))) .nil))) .nil)))⟩
def b1__law_tplaces : Ss := (.cons (.ex (.bm .extend (.var 2) (.cons (.call "_law_tplaces" (.cons (.var 5) (.cons (.bin .add (.var 1) (.tup (.cons (.bin .add (.var 3) (.var 4)) .nil))) .nil))) .nil))) (.cons (.kill [4, 5]) .nil))
def f__law_tplaces : Fn := ⟨["part", "place", "found", "first", "k", "one"], 2, (.cons (.asg 2 (.lst (.cons (.tup (.cons (.var 1) (.cons (.var 0) .nil))) .nil))) (.cons (.asg 3 (.bi .len (.cons (.call "_law_simples" (.cons (.var 0) .nil)) .nil))) (.cons (.for_ (.tup [4, 5]) (.enum (.call "_law_inner" (.cons (.var 0) .nil))) b1__law_tplaces) (.cons (.ret (.mov (.var 2))) .nil))))⟩
def f__law_tput : Fn := ⟨["part", "place", "other", "first", "inner", "at"], 3, (.cons (.ifs (.cmp .eq (.var 1) (.tup .nil)) (.cons (.ret (.mov (.var 2))) .nil) .nil) (.cons (.asg 3 (.bi .len (.cons (.call "_law_simples" (.cons (.var 0) .nil)) .nil))) (.cons (.asg 4 (.bi .list (.cons (.call "_law_inner" (.cons (.var 0) .nil)) .nil))) (.cons (.asg 5 (.bin .sub (.idx (.var 1) (.int 0)) (.var 3))) (.cons (.seti (.var 4) (.var 5) (.call "_law_tput" (.cons (.idx (.var 4) (.var 5)) (.cons (.slice (.var 1) (.some (.int 1)) .none) (.cons (.var 2) .nil))))) (.cons (.ret (.bin .add (.slice (.var 0) .none (.some (.bin .sub (.bi .len (.cons (.var 0) .nil)) (.bi .len (.cons (.var 4) .nil))))) (.bi .tuple (.cons (.var 4) .nil)))) .nil))))))⟩
def b1__law_twords : Ss := (.cons (.ex (.bm .extend (.var 1) (.cons (.call "_law_twords" (.cons (.var 2) .nil)) .nil))) (.cons (.kill [2]) .nil))
def f__law_twords : Fn := ⟨["part", "found", "one"], 1, (.cons (.asg 1 (.lst .nil)) (.cons (.ifs (.cmp .isin (.idx (.var 0) (.int 0)) (.tup (.cons (.str "let") (.cons (.str "tell") .nil)))) (.cons (.ex (.bm .append (.var 1) (.cons (.idx (.var 0) (.int 1)) .nil))) .nil) .nil) (.cons (.ifs (.cmp .eq (.idx (.var 0) (.int 0)) (.str "post")) (.cons (.ex (.bm .append (.var 1) (.cons (.idx (.var 0) (.int 2)) .nil))) .nil) .nil) (.cons (.for_ (.nm 2) (.of (.call "_law_inner" (.cons (.var 0) .nil))) b1__law_twords) (.cons (.ret (.mov (.var 1))) .nil)))))⟩
def b1__law_tposts : Ss := (.cons (.ex (.bm .extend (.var 1) (.cons (.call "_law_tposts" (.cons (.var 2) .nil)) .nil))) (.cons (.kill [2]) .nil))
def f__law_tposts : Fn := ⟨["part", "found", "one"], 1, (.cons (.asg 1 (.ite (.cmp .eq (.idx (.var 0) (.int 0)) (.str "post")) (.lst (.cons (.idx (.var 0) (.int 1)) .nil)) (.lst .nil))) (.cons (.for_ (.nm 2) (.of (.call "_law_inner" (.cons (.var 0) .nil))) b1__law_tposts) (.cons (.ret (.mov (.var 1))) .nil)))⟩
def l1__law_called : Ex := (.call "_law_called" (.cons (.var 3) (.cons (.var 1) .nil)))
def f__law_called : Fn := ⟨["term", "words", "parts", "part"], 2, (.cons (.ifs (.cmp .eq (.idx (.var 0) (.int 0)) (.str "number")) (.cons (.ret (.mov (.var 0))) .nil) .nil) (.cons (.ifs (.cmp .eq (.idx (.var 0) (.int 0)) (.str "name")) (.cons (.ret (.tup (.cons (.str "name") (.cons (.idx (.var 1) (.idx (.var 0) (.int 1))) .nil)))) .nil) .nil) (.cons (.asg 2 (.bi .tuple (.cons (.lc l1__law_called (.nm 3) (.of (.call "_law_parts" (.cons (.var 0) .nil))) .none) .nil))) (.cons (.ifs (.cmp .eq (.idx (.var 0) (.int 0)) (.str "ask")) (.cons (.ret (.tup (.cons (.str "ask") (.cons (.idx (.var 0) (.int 1)) (.cons (.mov (.var 2)) .nil))))) .nil) .nil) (.cons (.ifs (.cmp .eq (.idx (.var 0) (.int 0)) (.str "let")) (.cons (.ret (.bin .add (.tup (.cons (.str "let") (.cons (.idx (.var 1) (.idx (.var 0) (.int 1))) .nil))) (.var 2))) .nil) .nil) (.cons (.ret (.bin .add (.slice (.var 0) .none (.some (.int 1))) (.var 2))) .nil))))))⟩
def l1__law_tcalled : Ex := (.call "_law_tcalled" (.cons (.var 4) (.cons (.var 1) (.cons (.var 2) .nil))))
def l2__law_tcalled : Ex := (.call "_law_called" (.cons (.var 4) (.cons (.var 1) .nil)))
def f__law_tcalled : Fn := ⟨["part", "words", "posts", "inner", "one", "some"], 3, (.cons (.asg 3 (.bi .tuple (.cons (.lc l1__law_tcalled (.nm 4) (.of (.call "_law_inner" (.cons (.var 0) .nil))) .none) .nil))) (.cons (.asg 5 (.bi .tuple (.cons (.lc l2__law_tcalled (.nm 4) (.of (.call "_law_simples" (.cons (.var 0) .nil))) .none) .nil))) (.cons (.ifs (.cmp .eq (.idx (.var 0) (.int 0)) (.str "give")) (.cons (.ret (.tup (.cons (.str "give") (.cons (.idx (.var 2) (.idx (.var 0) (.int 1))) (.cons (.idx (.var 5) (.int 0)) .nil))))) .nil) .nil) (.cons (.ifs (.cmp .eq (.idx (.var 0) (.int 0)) (.str "ask")) (.cons (.ret (.tup (.cons (.str "ask") (.cons (.idx (.var 0) (.int 1)) (.cons (.mov (.var 5)) (.cons (.idx (.var 2) (.idx (.var 0) (.int 3))) .nil)))))) .nil) .nil) (.cons (.ifs (.cmp .eq (.idx (.var 0) (.int 0)) (.str "if")) (.cons (.ret (.bin .add (.bin .add (.tup (.cons (.str "if") .nil)) (.var 5)) (.var 3))) .nil) .nil) (.cons (.ifs (.cmp .eq (.idx (.var 0) (.int 0)) (.str "post")) (.cons (.ret (.bin .add (.tup (.cons (.str "post") (.cons (.idx (.var 2) (.idx (.var 0) (.int 1))) (.cons (.idx (.var 1) (.idx (.var 0) (.int 2))) .nil)))) (.var 3))) .nil) .nil) (.cons (.ret (.bin .add (.bin .add (.tup (.cons (.idx (.var 0) (.int 0)) (.cons (.idx (.var 1) (.idx (.var 0) (.int 1))) .nil))) (.var 5)) (.var 3))) .nil)))))))⟩
def t1__law_by_numbers : Ex := (.cmp .gt (.var 5) (.int 25))
def b1__law_by_numbers : Ss := (.cons (.asg 5 (.bin .fdiv (.var 5) (.int 26))) (.cons (.asg 6 (.bin .add (.idx (.var 1) (.bin .mod (.var 5) (.int 26))) (.var 6))) .nil))
def b2__law_by_numbers : Ss := (.cons (.asg 5 (.var 3)) (.cons (.asg 6 (.idx (.var 1) (.bin .mod (.var 5) (.int 26)))) (.cons (.whl t1__law_by_numbers b1__law_by_numbers) (.cons (.seti (.var 2) (.var 4) (.bin .add (.var 6) (.str "q"))) (.cons (.kill [3, 4, 5, 6]) .nil)))))
def f__law_by_numbers : Fn := ⟨["words", "letters", "found", "k", "word", "left", "told"], 1, (.cons (.asg 1 (.str "abcdefghijklmnopqrstuvwxyz")) (.cons (.asg 2 (.dic .nil)) (.cons (.for_ (.tup [3, 4]) (.enum (.var 0)) b2__law_by_numbers) (.cons (.ret (.mov (.var 2))) .nil))))⟩
def l1__law_anew : Ex := (.idx (.var 5) (.var 7))
def b1__law_anew : Ss := (.cons (.asg 5 (.call "_law_by_numbers" (.cons (.bin .add (.bi .list (.cons (.var 3) .nil)) (.call "_law_twords" (.cons (.var 4) .nil))) .nil))) (.cons (.asg 6 (.call "_law_by_numbers" (.cons (.call "_law_tposts" (.cons (.var 4) .nil)) .nil))) (.cons (.seti (.var 6) (.str "home") (.str "home")) (.cons (.asg 3 (.bi .tuple (.cons (.lc l1__law_anew (.nm 7) (.of (.var 3)) .none) .nil))) (.cons (.ex (.bm .append (.var 1) (.cons (.tup (.cons (.var 2) (.cons (.var 3) (.cons (.call "_law_tcalled" (.cons (.var 4) (.cons (.var 5) (.cons (.var 6) .nil)))) .nil)))) .nil))) (.cons (.kill [2, 3, 4, 5, 6]) .nil))))))
def f__law_anew : Fn := ⟨["turned", "found", "name", "names", "part", "words", "posts", "one"], 1, (.cons (.asg 1 (.lst .nil)) (.cons (.for_ (.tup [2, 3, 4]) (.of (.var 0)) b1__law_anew) (.cons (.ret (.bi .tuple (.cons (.var 1) .nil))) .nil)))⟩
def f__law_other_simple : Fn := ⟨["term"], 1, (.cons (.ifs (.cmp .eq (.idx (.var 0) (.int 0)) (.str "number")) (.cons (.ret (.tup (.cons (.str "number") (.cons (.bin .mod (.bin .add (.idx (.var 0) (.int 1)) (.int 1)) (.int 1000)) .nil)))) .nil) .nil) (.cons (.ifs (.cmp .eq (.idx (.var 0) (.int 0)) (.str "name")) (.cons (.ret (.tup (.cons (.str "plus") (.cons (.mov (.var 0)) (.cons (.tup (.cons (.str "number") (.cons (.int 0) .nil))) .nil))))) .nil) .nil) (.cons (.ret (.bin .add (.tup (.cons (.idx (.lst (.cons (.str "plus") (.cons (.str "less") .nil))) (.bi .int (.cons (.cmp .eq (.idx (.var 0) (.int 0)) (.str "plus")) .nil))) .nil)) (.slice (.var 0) (.some (.int 1)) .none))) .nil)))⟩
def b1__law_one_sign : Ss := (.cons (.asg 11 (.tup (.cons (.call "_law_other_simple" (.cons (.idx (.idx (.var 9) (.int 0)) (.var 10)) .nil)) .nil))) (.cons (.ex (.bm .append (.var 9) (.cons (.bin .add (.bin .add (.slice (.idx (.var 9) (.int 0)) .none (.some (.var 10))) (.var 11)) (.slice (.idx (.var 9) (.int 0)) (.some (.bin .add (.var 10) (.int 1))) .none)) .nil))) (.cons (.kill [10, 11]) .nil)))
def f__law_one_sign : Fn := ⟨["tape", "turned", "at", "name", "names", "part", "places", "place", "one", "some", "k", "here", "terms", "other", "errand"], 2, (.cons (.asg 2 (.call "_law_digit" (.cons (.var 0) (.cons (.bi .len (.cons (.var 1) .nil)) .nil)))) (.cons (.unp [3, 4, 5] (.idx (.var 1) (.var 2))) (.cons (.asg 6 (.call "_law_tplaces" (.cons (.var 5) (.cons (.tup .nil) .nil)))) (.cons (.unp [7, 8] (.idx (.var 6) (.call "_law_digit" (.cons (.var 0) (.cons (.bi .len (.cons (.var 6) .nil)) .nil))))) (.cons (.asg 9 (.lst (.cons (.call "_law_simples" (.cons (.var 8) .nil)) .nil))) (.cons (.for_ (.nm 10) (.rng1 (.bi .len (.cons (.idx (.var 9) (.int 0)) .nil))) b1__law_one_sign) (.cons (.asg 12 (.idx (.bin .add (.var 9) (.lst (.cons (.rev (.idx (.var 9) (.int 0))) .nil))) (.call "_law_digit" (.cons (.var 0) (.cons (.bin .add (.bi .len (.cons (.var 9) .nil)) (.int 1)) .nil))))) (.cons (.asg 13 (.var 8)) (.cons (.ifs (.cmp .eq (.idx (.var 8) (.int 0)) (.str "ask")) (.cons (.asg 13 (.bin .add (.slice (.var 8) .none (.some (.int 2))) (.tup (.cons (.var 12) (.cons (.idx (.var 8) (.int 3)) .nil))))) .nil) (.cons (.ifs (.cmp .eq (.idx (.var 8) (.int 0)) (.str "if")) (.cons (.asg 13 (.bin .add (.bin .add (.tup (.cons (.str "if") .nil)) (.var 12)) (.slice (.var 8) (.some (.int 2)) .none))) .nil) (.cons (.ifs (.cmp .ne (.idx (.var 8) (.int 0)) (.str "post")) (.cons (.asg 13 (.bin .add (.bin .add (.slice (.var 8) .none (.some (.int 2))) (.var 12)) (.slice (.var 8) (.some (.int 3)) .none))) .nil) .nil) .nil)) .nil)) (.cons (.ifs (.and_ (.cmp .isin (.idx (.var 8) (.int 0)) (.tup (.cons (.str "let") (.cons (.str "tell") .nil)))) (.cmp .eq (.call "_law_digit" (.cons (.var 0) (.cons (.int 3) .nil))) (.int 0))) (.cons (.asg 13 (.bin .add (.tup (.cons (.idx (.lst (.cons (.str "let") (.cons (.str "tell") .nil))) (.bi .int (.cons (.cmp .eq (.idx (.var 8) (.int 0)) (.str "let")) .nil))) .nil)) (.slice (.var 8) (.some (.int 1)) .none))) .nil) .nil) (.cons (.asg 14 (.tup (.cons (.var 3) (.cons (.var 4) (.cons (.call "_law_tput" (.cons (.var 5) (.cons (.var 7) (.cons (.var 13) .nil)))) .nil))))) (.cons (.ret (.bin .add (.bin .add (.slice (.var 1) .none (.some (.var 2))) (.tup (.cons (.var 14) .nil))) (.slice (.var 1) (.some (.bin .add (.var 2) (.int 1))) .none))) .nil))))))))))))⟩
def b1__law_many_words : Ss := (.cons (.asg 3 (.bin .add (.bin .add (.str "z") (.idx (.var 1) (.bin .fdiv (.var 2) (.int 26)))) (.idx (.var 1) (.bin .mod (.var 2) (.int 26))))) (.cons (.asg 4 (.lst (.cons (.tup (.cons (.str "let") (.cons (.var 3) (.cons (.tup (.cons (.str "number") (.cons (.var 2) .nil))) (.cons (.var 0) .nil))))) .nil))) (.cons (.asg 4 (.bin .add (.var 4) (.lst (.cons (.tup (.cons (.str "post") (.cons (.var 3) (.cons (.bin .add (.str "y") (.var 3)) (.cons (.var 0) (.cons (.tup (.cons (.str "give") (.cons (.var 3) (.cons (.tup (.cons (.str "number") (.cons (.var 2) .nil))) .nil)))) .nil)))))) .nil)))) (.cons (.asg 0 (.idx (.var 4) (.bin .mod (.var 2) (.int 2)))) (.cons (.kill [2, 3, 4]) .nil)))))
def f__law_many_words : Fn := ⟨["part", "letters", "k", "x", "some"], 0, (.cons (.asg 0 (.tup (.cons (.str "give") (.cons (.str "home") (.cons (.tup (.cons (.str "name") (.cons (.str "start") .nil))) .nil))))) (.cons (.asg 1 (.str "abcdefghijklmnopqrstuvwxyz")) (.cons (.for_ (.nm 2) (.rng1 (.int 30)) b1__law_many_words) (.cons (.ret (.tup (.cons (.tup (.cons (.str "f") (.cons (.tup (.cons (.str "start") .nil)) (.cons (.mov (.var 0)) .nil)))) .nil))) .nil))))⟩
def b1_law : Ss := (.cons (.asg 4 (.call "_law_anew" (.cons (.var 3) .nil))) (.cons (.ifs (.or_ (.cmp .ne (.call "anew" (.cons (.var 3) .nil)) (.var 4)) (.or_ (.cmp .ne (.call "anew" (.cons (.var 4) .nil)) (.var 4)) (.cmp .isnot (.call "are_alike" (.cons (.var 3) (.cons (.var 4) .nil))) (.bl true)))) (.cons (.ret (.bl false)) .nil) .nil) (.cons (.kill [3, 4]) .nil)))
def b2_law : Ss := (.cons (.ifs (.or_ (.not_ (.isi (.var 8) .bool)) (.cmp .ne (.var 8) (.var 4))) (.cons (.ret (.bl false)) .nil) .nil) (.cons (.kill [8]) .nil))
def b3_law : Ss := (.cons (.asg 3 (.call "_law_one_sign" (.cons (.var 6) (.cons (.var 2) .nil)))) (.cons (.asg 4 (.cmp .eq (.call "_law_anew" (.cons (.var 3) .nil)) (.call "_law_anew" (.cons (.var 2) .nil)))) (.cons (.for_ (.nm 8) (.of (.lst (.cons (.call "are_alike" (.cons (.var 2) (.cons (.var 3) .nil))) (.cons (.call "are_alike" (.cons (.var 3) (.cons (.var 2) .nil))) .nil)))) b2_law) (.cons (.kill [3, 4, 7, 8]) .nil))))
def b4_law : Ss := (.cons (.asg 6 (.call "_law_tape" (.cons (.var 0) (.cons (.var 5) .nil)))) (.cons (.for_ (.nm 7) (.rng1 (.int 3)) b3_law) (.cons (.kill [3, 4, 5, 6, 7, 8]) .nil)))
def f_law : Fn := ⟨["script", "straight", "turned", "one", "due", "k", "tape", "turn", "told"], 1, (.cons (.asg 1 (.cmp .lt (.call "_law_digit" (.cons (.call "_law_tape" (.cons (.var 0) (.cons (.int 0) .nil))) (.cons (.int 7) .nil))) (.int 4))) (.cons (.asg 2 (.call "_law_turned_book" (.cons (.var 0) (.cons (.int 0) (.cons (.var 1) .nil))))) (.cons (.for_ (.nm 3) (.of (.lst (.cons (.var 2) (.cons (.call "_law_many_words" .nil) .nil)))) b1_law) (.cons (.for_ (.nm 5) (.rng2 (.int 7) (.bi .max (.cons (.int 10) (.cons (.bi .min (.cons (.int 15) (.cons (.bi .len (.cons (.var 0) .nil)) .nil))) .nil)))) b4_law) (.cons (.ret (.bl true)) .nil)))))⟩
def theGlo : List (Str × PV) := [("LETTERS", .str "abcdefghijklmnopqrstuvwxyz"), ("HOME", .str "home")]
def theGloI : List (Str × I) := [("LETTERS", .str "abcdefghijklmnopqrstuvwxyz"), ("HOME", .str "home")]
def T : Tbl := ⟨("inner_turned", f_inner_turned) :: ("words_in", f_words_in) :: ("hands_in", f_hands_in) :: ("word_of", f_word_of) :: ("words_by", f_words_by) :: ("term_by", f_term_by) :: ("part_by", f_part_by) :: ("anew", f_anew) :: ("are_alike", f_are_alike) :: ("_law_cell_at", f__law_cell_at) :: ("_law_tape", f__law_tape) :: ("_law_digit", f__law_digit) :: ("_law_words", f__law_words) :: ("_law_number", f__law_number) :: ("_law_leaf", f__law_leaf) :: ("_law_shares", f__law_shares) :: ("_law_less_one", f__law_less_one) :: ("_law_parts", f__law_parts) :: ("_law_simple", f__law_simple) :: ("_law_some_hand", f__law_some_hand) :: ("_law_end", f__law_end) :: ("_law_part", f__law_part) :: ("_law_turned_body", f__law_turned_body) :: ("_law_turned_book", f__law_turned_book) :: ("_law_inner", f__law_inner) :: ("_law_simples", f__law_simples) :: ("_law_tplaces", f__law_tplaces) :: ("_law_tput", f__law_tput) :: ("_law_twords", f__law_twords) :: ("_law_tposts", f__law_tposts) :: ("_law_called", f__law_called) :: ("_law_tcalled", f__law_tcalled) :: ("_law_by_numbers", f__law_by_numbers) :: ("_law_anew", f__law_anew) :: ("_law_other_simple", f__law_other_simple) :: ("_law_one_sign", f__law_one_sign) :: ("_law_many_words", f__law_many_words) :: ("law", f_law) :: [], theGlo, [], [], []⟩
def VT : VTbl := ⟨T, [("_law_digit", [true, false]), ("_law_words", [true, false]), ("_law_number", [true]), ("_law_leaf", [true, true, false]), ("_law_shares", [true, false, false]), ("_law_simple", [true, false, false]), ("_law_some_hand", [true, true, false]), ("_law_end", [true, true, false, false]), ("_law_part", [true, true, false, false, false, false]), ("_law_turned_body", [true, true, false]), ("_law_one_sign", [true, false])], [], theGloI⟩
theorem lk_inner_turned : VT.T.fn.lookup (Str.ofString "inner_turned") = some f_inner_turned := by simp [VT, T, List.lookup]
@[simp] theorem io_inner_turned : VT.ioOf (Str.ofString "inner_turned") = [] := by simp [VTbl.ioOf, VT, List.lookup]
theorem vc_inner_turned {wf k : Nat} (args : List V) (h : args.length = 1) : (vctx VT wf (k + 1)).call (Str.ofString "inner_turned") args = runO [] 1 (vSs (vCtx VT wf k []) f_inner_turned.body (args ++ List.replicate (1 - args.length) .gone)) := by
  rw [call_of lk_inner_turned io_inner_turned, vRun_eq _ _ _ h]; rfl
theorem lk_words_in : VT.T.fn.lookup (Str.ofString "words_in") = some f_words_in := by simp [VT, T, List.lookup]
@[simp] theorem io_words_in : VT.ioOf (Str.ofString "words_in") = [] := by simp [VTbl.ioOf, VT, List.lookup]
theorem vc_words_in {wf k : Nat} (args : List V) (h : args.length = 1) : (vctx VT wf (k + 1)).call (Str.ofString "words_in") args = runO [] 1 (vSs (vCtx VT wf k []) f_words_in.body (args ++ List.replicate (3 - args.length) .gone)) := by
  rw [call_of lk_words_in io_words_in, vRun_eq _ _ _ h]; rfl
theorem lk_hands_in : VT.T.fn.lookup (Str.ofString "hands_in") = some f_hands_in := by simp [VT, T, List.lookup]
@[simp] theorem io_hands_in : VT.ioOf (Str.ofString "hands_in") = [] := by simp [VTbl.ioOf, VT, List.lookup]
theorem vc_hands_in {wf k : Nat} (args : List V) (h : args.length = 1) : (vctx VT wf (k + 1)).call (Str.ofString "hands_in") args = runO [] 1 (vSs (vCtx VT wf k []) f_hands_in.body (args ++ List.replicate (3 - args.length) .gone)) := by
  rw [call_of lk_hands_in io_hands_in, vRun_eq _ _ _ h]; rfl
theorem lk_word_of : VT.T.fn.lookup (Str.ofString "word_of") = some f_word_of := by simp [VT, T, List.lookup]
@[simp] theorem io_word_of : VT.ioOf (Str.ofString "word_of") = [] := by simp [VTbl.ioOf, VT, List.lookup]
theorem vc_word_of {wf k : Nat} (args : List V) (h : args.length = 1) : (vctx VT wf (k + 1)).call (Str.ofString "word_of") args = runO [] 1 (vSs (vCtx VT wf k []) f_word_of.body (args ++ List.replicate (2 - args.length) .gone)) := by
  rw [call_of lk_word_of io_word_of, vRun_eq _ _ _ h]; rfl
theorem lk_words_by : VT.T.fn.lookup (Str.ofString "words_by") = some f_words_by := by simp [VT, T, List.lookup]
@[simp] theorem io_words_by : VT.ioOf (Str.ofString "words_by") = [] := by simp [VTbl.ioOf, VT, List.lookup]
theorem vc_words_by {wf k : Nat} (args : List V) (h : args.length = 1) : (vctx VT wf (k + 1)).call (Str.ofString "words_by") args = runO [] 1 (vSs (vCtx VT wf k []) f_words_by.body (args ++ List.replicate (3 - args.length) .gone)) := by
  rw [call_of lk_words_by io_words_by, vRun_eq _ _ _ h]; rfl
theorem lk_term_by : VT.T.fn.lookup (Str.ofString "term_by") = some f_term_by := by simp [VT, T, List.lookup]
@[simp] theorem io_term_by : VT.ioOf (Str.ofString "term_by") = [] := by simp [VTbl.ioOf, VT, List.lookup]
theorem vc_term_by {wf k : Nat} (args : List V) (h : args.length = 2) : (vctx VT wf (k + 1)).call (Str.ofString "term_by") args = runO [] 2 (vSs (vCtx VT wf k []) f_term_by.body (args ++ List.replicate (3 - args.length) .gone)) := by
  rw [call_of lk_term_by io_term_by, vRun_eq _ _ _ h]; rfl
theorem lk_part_by : VT.T.fn.lookup (Str.ofString "part_by") = some f_part_by := by simp [VT, T, List.lookup]
@[simp] theorem io_part_by : VT.ioOf (Str.ofString "part_by") = [] := by simp [VTbl.ioOf, VT, List.lookup]
theorem vc_part_by {wf k : Nat} (args : List V) (h : args.length = 3) : (vctx VT wf (k + 1)).call (Str.ofString "part_by") args = runO [] 3 (vSs (vCtx VT wf k []) f_part_by.body (args ++ List.replicate (5 - args.length) .gone)) := by
  rw [call_of lk_part_by io_part_by, vRun_eq _ _ _ h]; rfl
theorem lk_anew : VT.T.fn.lookup (Str.ofString "anew") = some f_anew := by simp [VT, T, List.lookup]
@[simp] theorem io_anew : VT.ioOf (Str.ofString "anew") = [] := by simp [VTbl.ioOf, VT, List.lookup]
theorem vc_anew {wf k : Nat} (args : List V) (h : args.length = 1) : (vctx VT wf (k + 1)).call (Str.ofString "anew") args = runO [] 1 (vSs (vCtx VT wf k []) f_anew.body (args ++ List.replicate (8 - args.length) .gone)) := by
  rw [call_of lk_anew io_anew, vRun_eq _ _ _ h]; rfl
theorem lk_are_alike : VT.T.fn.lookup (Str.ofString "are_alike") = some f_are_alike := by simp [VT, T, List.lookup]
@[simp] theorem io_are_alike : VT.ioOf (Str.ofString "are_alike") = [] := by simp [VTbl.ioOf, VT, List.lookup]
theorem vc_are_alike {wf k : Nat} (args : List V) (h : args.length = 2) : (vctx VT wf (k + 1)).call (Str.ofString "are_alike") args = runO [] 2 (vSs (vCtx VT wf k []) f_are_alike.body (args ++ List.replicate (2 - args.length) .gone)) := by
  rw [call_of lk_are_alike io_are_alike, vRun_eq _ _ _ h]; rfl
theorem lk__law_cell_at : VT.T.fn.lookup (Str.ofString "_law_cell_at") = some f__law_cell_at := by simp [VT, T, List.lookup]
@[simp] theorem io__law_cell_at : VT.ioOf (Str.ofString "_law_cell_at") = [] := by simp [VTbl.ioOf, VT, List.lookup]
theorem vc__law_cell_at {wf k : Nat} (args : List V) (h : args.length = 2) : (vctx VT wf (k + 1)).call (Str.ofString "_law_cell_at") args = runO [] 2 (vSs (vCtx VT wf k []) f__law_cell_at.body (args ++ List.replicate (2 - args.length) .gone)) := by
  rw [call_of lk__law_cell_at io__law_cell_at, vRun_eq _ _ _ h]; rfl
theorem lk__law_tape : VT.T.fn.lookup (Str.ofString "_law_tape") = some f__law_tape := by simp [VT, T, List.lookup]
@[simp] theorem io__law_tape : VT.ioOf (Str.ofString "_law_tape") = [] := by simp [VTbl.ioOf, VT, List.lookup]
theorem vc__law_tape {wf k : Nat} (args : List V) (h : args.length = 2) : (vctx VT wf (k + 1)).call (Str.ofString "_law_tape") args = runO [] 2 (vSs (vCtx VT wf k []) f__law_tape.body (args ++ List.replicate (7 - args.length) .gone)) := by
  rw [call_of lk__law_tape io__law_tape, vRun_eq _ _ _ h]; rfl
theorem lk__law_digit : VT.T.fn.lookup (Str.ofString "_law_digit") = some f__law_digit := by simp [VT, T, List.lookup]
@[simp] theorem io__law_digit : VT.ioOf (Str.ofString "_law_digit") = [true, false] := by simp [VTbl.ioOf, VT, List.lookup]
theorem vc__law_digit {wf k : Nat} (args : List V) (h : args.length = 2) : (vctx VT wf (k + 1)).call (Str.ofString "_law_digit") args = runO [true, false] 2 (vSs (vCtx VT wf k [true, false]) f__law_digit.body (args ++ List.replicate (3 - args.length) .gone)) := by
  rw [call_of lk__law_digit io__law_digit, vRun_eq _ _ _ h]; rfl
theorem lk__law_words : VT.T.fn.lookup (Str.ofString "_law_words") = some f__law_words := by simp [VT, T, List.lookup]
@[simp] theorem io__law_words : VT.ioOf (Str.ofString "_law_words") = [true, false] := by simp [VTbl.ioOf, VT, List.lookup]
theorem vc__law_words {wf k : Nat} (args : List V) (h : args.length = 2) : (vctx VT wf (k + 1)).call (Str.ofString "_law_words") args = runO [true, false] 2 (vSs (vCtx VT wf k [true, false]) f__law_words.body (args ++ List.replicate (8 - args.length) .gone)) := by
  rw [call_of lk__law_words io__law_words, vRun_eq _ _ _ h]; rfl
theorem lk__law_number : VT.T.fn.lookup (Str.ofString "_law_number") = some f__law_number := by simp [VT, T, List.lookup]
@[simp] theorem io__law_number : VT.ioOf (Str.ofString "_law_number") = [true] := by simp [VTbl.ioOf, VT, List.lookup]
theorem vc__law_number {wf k : Nat} (args : List V) (h : args.length = 1) : (vctx VT wf (k + 1)).call (Str.ofString "_law_number") args = runO [true] 1 (vSs (vCtx VT wf k [true]) f__law_number.body (args ++ List.replicate (2 - args.length) .gone)) := by
  rw [call_of lk__law_number io__law_number, vRun_eq _ _ _ h]; rfl
theorem lk__law_leaf : VT.T.fn.lookup (Str.ofString "_law_leaf") = some f__law_leaf := by simp [VT, T, List.lookup]
@[simp] theorem io__law_leaf : VT.ioOf (Str.ofString "_law_leaf") = [true, true, false] := by simp [VTbl.ioOf, VT, List.lookup]
theorem vc__law_leaf {wf k : Nat} (args : List V) (h : args.length = 3) : (vctx VT wf (k + 1)).call (Str.ofString "_law_leaf") args = runO [true, true, false] 3 (vSs (vCtx VT wf k [true, true, false]) f__law_leaf.body (args ++ List.replicate (3 - args.length) .gone)) := by
  rw [call_of lk__law_leaf io__law_leaf, vRun_eq _ _ _ h]; rfl
theorem lk__law_shares : VT.T.fn.lookup (Str.ofString "_law_shares") = some f__law_shares := by simp [VT, T, List.lookup]
@[simp] theorem io__law_shares : VT.ioOf (Str.ofString "_law_shares") = [true, false, false] := by simp [VTbl.ioOf, VT, List.lookup]
theorem vc__law_shares {wf k : Nat} (args : List V) (h : args.length = 3) : (vctx VT wf (k + 1)).call (Str.ofString "_law_shares") args = runO [true, false, false] 3 (vSs (vCtx VT wf k [true, false, false]) f__law_shares.body (args ++ List.replicate (7 - args.length) .gone)) := by
  rw [call_of lk__law_shares io__law_shares, vRun_eq _ _ _ h]; rfl
theorem lk__law_less_one : VT.T.fn.lookup (Str.ofString "_law_less_one") = some f__law_less_one := by simp [VT, T, List.lookup]
@[simp] theorem io__law_less_one : VT.ioOf (Str.ofString "_law_less_one") = [] := by simp [VTbl.ioOf, VT, List.lookup]
theorem vc__law_less_one {wf k : Nat} (args : List V) (h : args.length = 1) : (vctx VT wf (k + 1)).call (Str.ofString "_law_less_one") args = runO [] 1 (vSs (vCtx VT wf k []) f__law_less_one.body (args ++ List.replicate (1 - args.length) .gone)) := by
  rw [call_of lk__law_less_one io__law_less_one, vRun_eq _ _ _ h]; rfl
theorem lk__law_parts : VT.T.fn.lookup (Str.ofString "_law_parts") = some f__law_parts := by simp [VT, T, List.lookup]
@[simp] theorem io__law_parts : VT.ioOf (Str.ofString "_law_parts") = [] := by simp [VTbl.ioOf, VT, List.lookup]
theorem vc__law_parts {wf k : Nat} (args : List V) (h : args.length = 1) : (vctx VT wf (k + 1)).call (Str.ofString "_law_parts") args = runO [] 1 (vSs (vCtx VT wf k []) f__law_parts.body (args ++ List.replicate (1 - args.length) .gone)) := by
  rw [call_of lk__law_parts io__law_parts, vRun_eq _ _ _ h]; rfl
theorem lk__law_simple : VT.T.fn.lookup (Str.ofString "_law_simple") = some f__law_simple := by simp [VT, T, List.lookup]
@[simp] theorem io__law_simple : VT.ioOf (Str.ofString "_law_simple") = [true, false, false] := by simp [VTbl.ioOf, VT, List.lookup]
theorem vc__law_simple {wf k : Nat} (args : List V) (h : args.length = 3) : (vctx VT wf (k + 1)).call (Str.ofString "_law_simple") args = runO [true, false, false] 3 (vSs (vCtx VT wf k [true, false, false]) f__law_simple.body (args ++ List.replicate (4 - args.length) .gone)) := by
  rw [call_of lk__law_simple io__law_simple, vRun_eq _ _ _ h]; rfl
theorem lk__law_some_hand : VT.T.fn.lookup (Str.ofString "_law_some_hand") = some f__law_some_hand := by simp [VT, T, List.lookup]
@[simp] theorem io__law_some_hand : VT.ioOf (Str.ofString "_law_some_hand") = [true, true, false] := by simp [VTbl.ioOf, VT, List.lookup]
theorem vc__law_some_hand {wf k : Nat} (args : List V) (h : args.length = 3) : (vctx VT wf (k + 1)).call (Str.ofString "_law_some_hand") args = runO [true, true, false] 3 (vSs (vCtx VT wf k [true, true, false]) f__law_some_hand.body (args ++ List.replicate (3 - args.length) .gone)) := by
  rw [call_of lk__law_some_hand io__law_some_hand, vRun_eq _ _ _ h]; rfl
theorem lk__law_end : VT.T.fn.lookup (Str.ofString "_law_end") = some f__law_end := by simp [VT, T, List.lookup]
@[simp] theorem io__law_end : VT.ioOf (Str.ofString "_law_end") = [true, true, false, false] := by simp [VTbl.ioOf, VT, List.lookup]
theorem vc__law_end {wf k : Nat} (args : List V) (h : args.length = 4) : (vctx VT wf (k + 1)).call (Str.ofString "_law_end") args = runO [true, true, false, false] 4 (vSs (vCtx VT wf k [true, true, false, false]) f__law_end.body (args ++ List.replicate (8 - args.length) .gone)) := by
  rw [call_of lk__law_end io__law_end, vRun_eq _ _ _ h]; rfl
theorem lk__law_part : VT.T.fn.lookup (Str.ofString "_law_part") = some f__law_part := by simp [VT, T, List.lookup]
@[simp] theorem io__law_part : VT.ioOf (Str.ofString "_law_part") = [true, true, false, false, false, false] := by simp [VTbl.ioOf, VT, List.lookup]
theorem vc__law_part {wf k : Nat} (args : List V) (h : args.length = 6) : (vctx VT wf (k + 1)).call (Str.ofString "_law_part") args = runO [true, true, false, false, false, false] 6 (vSs (vCtx VT wf k [true, true, false, false, false, false]) f__law_part.body (args ++ List.replicate (13 - args.length) .gone)) := by
  rw [call_of lk__law_part io__law_part, vRun_eq _ _ _ h]; rfl
theorem lk__law_turned_body : VT.T.fn.lookup (Str.ofString "_law_turned_body") = some f__law_turned_body := by simp [VT, T, List.lookup]
@[simp] theorem io__law_turned_body : VT.ioOf (Str.ofString "_law_turned_body") = [true, true, false] := by simp [VTbl.ioOf, VT, List.lookup]
theorem vc__law_turned_body {wf k : Nat} (args : List V) (h : args.length = 3) : (vctx VT wf (k + 1)).call (Str.ofString "_law_turned_body") args = runO [true, true, false] 3 (vSs (vCtx VT wf k [true, true, false]) f__law_turned_body.body (args ++ List.replicate (5 - args.length) .gone)) := by
  rw [call_of lk__law_turned_body io__law_turned_body, vRun_eq _ _ _ h]; rfl
theorem lk__law_turned_book : VT.T.fn.lookup (Str.ofString "_law_turned_book") = some f__law_turned_book := by simp [VT, T, List.lookup]
@[simp] theorem io__law_turned_book : VT.ioOf (Str.ofString "_law_turned_book") = [] := by simp [VTbl.ioOf, VT, List.lookup]
theorem vc__law_turned_book {wf k : Nat} (args : List V) (h : args.length = 3) : (vctx VT wf (k + 1)).call (Str.ofString "_law_turned_book") args = runO [] 3 (vSs (vCtx VT wf k []) f__law_turned_book.body (args ++ List.replicate (14 - args.length) .gone)) := by
  rw [call_of lk__law_turned_book io__law_turned_book, vRun_eq _ _ _ h]; rfl
theorem lk__law_inner : VT.T.fn.lookup (Str.ofString "_law_inner") = some f__law_inner := by simp [VT, T, List.lookup]
@[simp] theorem io__law_inner : VT.ioOf (Str.ofString "_law_inner") = [] := by simp [VTbl.ioOf, VT, List.lookup]
theorem vc__law_inner {wf k : Nat} (args : List V) (h : args.length = 1) : (vctx VT wf (k + 1)).call (Str.ofString "_law_inner") args = runO [] 1 (vSs (vCtx VT wf k []) f__law_inner.body (args ++ List.replicate (1 - args.length) .gone)) := by
  rw [call_of lk__law_inner io__law_inner, vRun_eq _ _ _ h]; rfl
theorem lk__law_simples : VT.T.fn.lookup (Str.ofString "_law_simples") = some f__law_simples := by simp [VT, T, List.lookup]
@[simp] theorem io__law_simples : VT.ioOf (Str.ofString "_law_simples") = [] := by simp [VTbl.ioOf, VT, List.lookup]
theorem vc__law_simples {wf k : Nat} (args : List V) (h : args.length = 1) : (vctx VT wf (k + 1)).call (Str.ofString "_law_simples") args = runO [] 1 (vSs (vCtx VT wf k []) f__law_simples.body (args ++ List.replicate (1 - args.length) .gone)) := by
  rw [call_of lk__law_simples io__law_simples, vRun_eq _ _ _ h]; rfl
theorem lk__law_tplaces : VT.T.fn.lookup (Str.ofString "_law_tplaces") = some f__law_tplaces := by simp [VT, T, List.lookup]
@[simp] theorem io__law_tplaces : VT.ioOf (Str.ofString "_law_tplaces") = [] := by simp [VTbl.ioOf, VT, List.lookup]
theorem vc__law_tplaces {wf k : Nat} (args : List V) (h : args.length = 2) : (vctx VT wf (k + 1)).call (Str.ofString "_law_tplaces") args = runO [] 2 (vSs (vCtx VT wf k []) f__law_tplaces.body (args ++ List.replicate (6 - args.length) .gone)) := by
  rw [call_of lk__law_tplaces io__law_tplaces, vRun_eq _ _ _ h]; rfl
theorem lk__law_tput : VT.T.fn.lookup (Str.ofString "_law_tput") = some f__law_tput := by simp [VT, T, List.lookup]
@[simp] theorem io__law_tput : VT.ioOf (Str.ofString "_law_tput") = [] := by simp [VTbl.ioOf, VT, List.lookup]
theorem vc__law_tput {wf k : Nat} (args : List V) (h : args.length = 3) : (vctx VT wf (k + 1)).call (Str.ofString "_law_tput") args = runO [] 3 (vSs (vCtx VT wf k []) f__law_tput.body (args ++ List.replicate (6 - args.length) .gone)) := by
  rw [call_of lk__law_tput io__law_tput, vRun_eq _ _ _ h]; rfl
theorem lk__law_twords : VT.T.fn.lookup (Str.ofString "_law_twords") = some f__law_twords := by simp [VT, T, List.lookup]
@[simp] theorem io__law_twords : VT.ioOf (Str.ofString "_law_twords") = [] := by simp [VTbl.ioOf, VT, List.lookup]
theorem vc__law_twords {wf k : Nat} (args : List V) (h : args.length = 1) : (vctx VT wf (k + 1)).call (Str.ofString "_law_twords") args = runO [] 1 (vSs (vCtx VT wf k []) f__law_twords.body (args ++ List.replicate (3 - args.length) .gone)) := by
  rw [call_of lk__law_twords io__law_twords, vRun_eq _ _ _ h]; rfl
theorem lk__law_tposts : VT.T.fn.lookup (Str.ofString "_law_tposts") = some f__law_tposts := by simp [VT, T, List.lookup]
@[simp] theorem io__law_tposts : VT.ioOf (Str.ofString "_law_tposts") = [] := by simp [VTbl.ioOf, VT, List.lookup]
theorem vc__law_tposts {wf k : Nat} (args : List V) (h : args.length = 1) : (vctx VT wf (k + 1)).call (Str.ofString "_law_tposts") args = runO [] 1 (vSs (vCtx VT wf k []) f__law_tposts.body (args ++ List.replicate (3 - args.length) .gone)) := by
  rw [call_of lk__law_tposts io__law_tposts, vRun_eq _ _ _ h]; rfl
theorem lk__law_called : VT.T.fn.lookup (Str.ofString "_law_called") = some f__law_called := by simp [VT, T, List.lookup]
@[simp] theorem io__law_called : VT.ioOf (Str.ofString "_law_called") = [] := by simp [VTbl.ioOf, VT, List.lookup]
theorem vc__law_called {wf k : Nat} (args : List V) (h : args.length = 2) : (vctx VT wf (k + 1)).call (Str.ofString "_law_called") args = runO [] 2 (vSs (vCtx VT wf k []) f__law_called.body (args ++ List.replicate (4 - args.length) .gone)) := by
  rw [call_of lk__law_called io__law_called, vRun_eq _ _ _ h]; rfl
theorem lk__law_tcalled : VT.T.fn.lookup (Str.ofString "_law_tcalled") = some f__law_tcalled := by simp [VT, T, List.lookup]
@[simp] theorem io__law_tcalled : VT.ioOf (Str.ofString "_law_tcalled") = [] := by simp [VTbl.ioOf, VT, List.lookup]
theorem vc__law_tcalled {wf k : Nat} (args : List V) (h : args.length = 3) : (vctx VT wf (k + 1)).call (Str.ofString "_law_tcalled") args = runO [] 3 (vSs (vCtx VT wf k []) f__law_tcalled.body (args ++ List.replicate (6 - args.length) .gone)) := by
  rw [call_of lk__law_tcalled io__law_tcalled, vRun_eq _ _ _ h]; rfl
theorem lk__law_by_numbers : VT.T.fn.lookup (Str.ofString "_law_by_numbers") = some f__law_by_numbers := by simp [VT, T, List.lookup]
@[simp] theorem io__law_by_numbers : VT.ioOf (Str.ofString "_law_by_numbers") = [] := by simp [VTbl.ioOf, VT, List.lookup]
theorem vc__law_by_numbers {wf k : Nat} (args : List V) (h : args.length = 1) : (vctx VT wf (k + 1)).call (Str.ofString "_law_by_numbers") args = runO [] 1 (vSs (vCtx VT wf k []) f__law_by_numbers.body (args ++ List.replicate (7 - args.length) .gone)) := by
  rw [call_of lk__law_by_numbers io__law_by_numbers, vRun_eq _ _ _ h]; rfl
theorem lk__law_anew : VT.T.fn.lookup (Str.ofString "_law_anew") = some f__law_anew := by simp [VT, T, List.lookup]
@[simp] theorem io__law_anew : VT.ioOf (Str.ofString "_law_anew") = [] := by simp [VTbl.ioOf, VT, List.lookup]
theorem vc__law_anew {wf k : Nat} (args : List V) (h : args.length = 1) : (vctx VT wf (k + 1)).call (Str.ofString "_law_anew") args = runO [] 1 (vSs (vCtx VT wf k []) f__law_anew.body (args ++ List.replicate (8 - args.length) .gone)) := by
  rw [call_of lk__law_anew io__law_anew, vRun_eq _ _ _ h]; rfl
theorem lk__law_other_simple : VT.T.fn.lookup (Str.ofString "_law_other_simple") = some f__law_other_simple := by simp [VT, T, List.lookup]
@[simp] theorem io__law_other_simple : VT.ioOf (Str.ofString "_law_other_simple") = [] := by simp [VTbl.ioOf, VT, List.lookup]
theorem vc__law_other_simple {wf k : Nat} (args : List V) (h : args.length = 1) : (vctx VT wf (k + 1)).call (Str.ofString "_law_other_simple") args = runO [] 1 (vSs (vCtx VT wf k []) f__law_other_simple.body (args ++ List.replicate (1 - args.length) .gone)) := by
  rw [call_of lk__law_other_simple io__law_other_simple, vRun_eq _ _ _ h]; rfl
theorem lk__law_one_sign : VT.T.fn.lookup (Str.ofString "_law_one_sign") = some f__law_one_sign := by simp [VT, T, List.lookup]
@[simp] theorem io__law_one_sign : VT.ioOf (Str.ofString "_law_one_sign") = [true, false] := by simp [VTbl.ioOf, VT, List.lookup]
theorem vc__law_one_sign {wf k : Nat} (args : List V) (h : args.length = 2) : (vctx VT wf (k + 1)).call (Str.ofString "_law_one_sign") args = runO [true, false] 2 (vSs (vCtx VT wf k [true, false]) f__law_one_sign.body (args ++ List.replicate (15 - args.length) .gone)) := by
  rw [call_of lk__law_one_sign io__law_one_sign, vRun_eq _ _ _ h]; rfl
theorem lk__law_many_words : VT.T.fn.lookup (Str.ofString "_law_many_words") = some f__law_many_words := by simp [VT, T, List.lookup]
@[simp] theorem io__law_many_words : VT.ioOf (Str.ofString "_law_many_words") = [] := by simp [VTbl.ioOf, VT, List.lookup]
theorem vc__law_many_words {wf k : Nat} (args : List V) (h : args.length = 0) : (vctx VT wf (k + 1)).call (Str.ofString "_law_many_words") args = runO [] 0 (vSs (vCtx VT wf k []) f__law_many_words.body (args ++ List.replicate (5 - args.length) .gone)) := by
  rw [call_of lk__law_many_words io__law_many_words, vRun_eq _ _ _ h]; rfl
theorem lk_law : VT.T.fn.lookup (Str.ofString "law") = some f_law := by simp [VT, T, List.lookup]
@[simp] theorem io_law : VT.ioOf (Str.ofString "law") = [] := by simp [VTbl.ioOf, VT, List.lookup]
theorem vc_law {wf k : Nat} (args : List V) (h : args.length = 1) : (vctx VT wf (k + 1)).call (Str.ofString "law") args = runO [] 1 (vSs (vCtx VT wf k []) f_law.body (args ++ List.replicate (9 - args.length) .gone)) := by
  rw [call_of lk_law io_law, vRun_eq _ _ _ h]; rfl
@[simp] theorem glo_LETTERS : VT.glo.lookup (Str.ofString "LETTERS") = some (.str "abcdefghijklmnopqrstuvwxyz") := by simp [VT, theGloI, List.lookup]
@[simp] theorem glo_HOME : VT.glo.lookup (Str.ofString "HOME") = some (.str "home") := by simp [VT, theGloI, List.lookup]
end Wn
end
section
/-! W1: cells, tapes, digits, words. -/
namespace Wn
open PySem
theorem bigN : big = 16777216 := rfl
def cell (ns : List Int) (i : Nat) : Int := ns.getD i 0
theorem cell_at {wf k : Nat} (hk : 1 ≤ k) (ns : List Int) (i : Nat) : (vctx VT wf k).call "_law_cell_at" [.im (.fl ns), .im (.int i)] = .ok (.im (.int (cell ns i))) [.gone, .gone] := by
  obtain ⟨k, rfl⟩ := Nat.exists_eq_add_of_le' hk
  rw [vc__law_cell_at _ rfl]
  by_cases h : i < ns.length
  · have h2 : ns[i]? = some ns[i] := List.getElem?_eq_getElem h
    simp [f__law_cell_at, h, ixOf, h2, cell, List.getD]
  · simp [f__law_cell_at, h, cell, List.getD]
/-- a tape -/
def tp (v : Int) : V := lstV [.int v]
theorem digit {wf k : Nat} (hk : 1 ≤ k) (v m : Int) (hm : 0 < m) (hm2 : m ≤ 1000000) :
    (vctx VT wf k).call "_law_digit" [tp v, .im (.int m)] = .ok (.im (.int (v % m))) [tp (v / m), .gone] := by
  obtain ⟨k, rfl⟩ := Nat.exists_eq_add_of_le' hk
  rw [vc__law_digit _ rfl]
  have hm3 : m ≤ 1000000000000000000000000000000000000000000000000000000000000 := by omega
  simp [f__law_digit, tp, hm, hm3]
/-- what a digit comes to, without the tape's number -/
theorem digitE {wf k : Nat} (hk : 1 ≤ k) (v : Int) {m : Int} (hm : 0 < m) (hm2 : m ≤ 1000000) :
    ∃ (d : Nat) (v' : Int), (vctx VT wf k).call "_law_digit" [tp v, .im (.int m)] = .ok (.im (.int d)) [tp v', .gone] ∧ (d : Int) < m := by
  refine ⟨(v % m).toNat, v / m, ?_, ?_⟩
  · rw [digit hk v m (by omega) (by omega), Int.toNat_of_nonneg (Int.emod_nonneg _ (by omega))]
  · have h1 := Int.emod_nonneg v (b := m) (by omega)
    have h2 := Int.emod_lt_of_pos v (b := m) (by omega)
    omega
theorem tape {wf k : Nat} (hk : 2 ≤ k) (ns : List Int) (i : Nat) : ∃ v, (vctx VT wf k).call "_law_tape" [.im (.fl ns), .im (.int i)] = .ok (tp v) [.gone, .gone] := by
  obtain ⟨k, rfl⟩ := Nat.exists_eq_add_of_le' hk
  rw [vc__law_tape _ rfl]
  have hc := cell_at (wf := wf) (k := k + 1) (by omega) ns i
  generalize cell ns i = c at hc
  by_cases h0 : c = 0
  · exact ⟨0, by simp [f__law_tape, hc, h0, tp]⟩
  by_cases h1 : 1000000000000000000 ≤ c
  · exact ⟨c - 1000000000000000000, by simp [f__law_tape, hc, h0, h1, tp]⟩
  · have hb : inBound 20 = true := by decide
    have hp : (0 : Int) < 2305843009213693951 := by decide
    have hm1 : mulOk c 69621 = true := by simp [mulOk]
    have hm2 : mulOk 40014 i = true := by simp [mulOk]
    generalize hz : (c * 69621 + 40014 * (i : Int) + 17) % 2305843009213693951 = z
    have hz0 : 0 ≤ z ∧ z < 2305843009213693951 := by
      rw [← hz]; exact ⟨Int.emod_nonneg _ (by decide), Int.emod_lt_of_pos _ hp⟩
    have hL := vforGo_inv (step := stepV (vCtx VT wf (k + 1) []) (.nm 6) b1__law_tape) (fun xs E => (∀ x ∈ xs, ∃ j : Nat, x = .int j) ∧ ∃ one found : Int, E = [.im (.fl ns), .im (.int i), .im (.int c), .im (.int 2305843009213693951), .im (.int one), .im (.int found), .gone] ∧ 0 ≤ one ∧ one < 2305843009213693951) (by
      rintro x xs E ⟨hx, one, found, rfl, h2, h3⟩
      obtain ⟨j, rfl⟩ := hx x (List.mem_cons_self ..)
      have e1 : mulOk one one = true := by simp [mulOk]; omega
      have e2 : mulOk 40692 (j : Int) = true := by simp [mulOk]
      have e3 : mulOk found 2305843009213693951 = true := by simp [mulOk]
      exact ⟨[.im (.fl ns), .im (.int i), .im (.int c), .im (.int 2305843009213693951), .im (.int ((one * one + 40692 * (j : Int) + c + 7) % 2305843009213693951)), .im (.int (found * 2305843009213693951 + ((one * one + 40692 * (j : Int) + c + 7) % 2305843009213693951))), .gone],
        by simp [stepV, b1__law_tape, vSetTg, e1, e2, e3], fun y hy => hx y (List.mem_cons_of_mem _ hy), _, _, rfl, Int.emod_nonneg _ (by decide), Int.emod_lt_of_pos _ hp⟩)
    obtain ⟨E', e, _, one, found, rfl, _⟩ := hL ((List.range 20).map fun (k : Nat) => I.int (k : Int)) [.im (.fl ns), .im (.int i), .im (.int c), .im (.int 2305843009213693951), .im (.int z), .im (.int z), .gone] ⟨by
      intro x hx; simp only [List.mem_map] at hx; obtain ⟨j, _, rfl⟩ := hx; exact ⟨j, rfl⟩, z, z, rfl, hz0⟩
    have hr : iRange 0 20 = (List.range 20).map fun (k : Nat) => I.int (k : Int) := iRange_nat 20
    exact ⟨found, by simp [f__law_tape, hc, h0, h1, hb, hm1, hm2, hz, tp]; rw [hr, e]; simp⟩

def outs : List Str := ["let", "be", "in", "tell", "if", "then", "else", "home"]
/-- a word -/
def isW (x : Str) : Bool := decide (1 ≤ x.cps.toList.length) && decide (x.cps.toList.length ≤ 8) && x.cps.toList.all (fun c => decide (97 ≤ c) && decide (c ≤ 122)) && !(outs.contains x)

def lett (j : Nat) : Str := ⟨#[97 + j]⟩
def ends (e : Nat) : Str := ["", "a", "omelons"].getD e ""
def wd0 (turn e k : Nat) : Str := lett ((turn + k) % 26) ++ ends e
def wd1 (turn k : Nat) : Str := ⟨(List.replicate (1 + k % 8) (97 + (turn + k / 8) % 26)).toArray⟩
def wds : List Str := ["give", "ask", "post", "plus", "less", "name", "number", "to", "as", "f", "x", "aq", "bq", "lets", "ifs", "ina", "homes", "q"]
def wd2 (turn k : Nat) : Str := wds.getD ((turn + k) % 18) ""
def fine (ws : List Str) : Prop := ws.Nodup ∧ ∀ x ∈ ws, isW x = true

/-! the same by the signs' numbers, for the kernel -/
def eqL : List Nat → List Nat → Bool
  | [], [] => true
  | a :: as, b :: bs => Nat.beq a b && eqL as bs
  | _, _ => false
theorem eqL_refl : ∀ a : List Nat, eqL a a = true
  | [] => rfl
  | a :: as => by simp [eqL, eqL_refl as]
def outL : List (List Nat) := outs.map fun x => x.cps.toList
def isWL (l : List Nat) : Bool := Nat.ble 1 l.length && Nat.ble l.length 8 && l.all (fun c => Nat.ble 97 c && Nat.ble c 122) && !(outL.any (eqL l))
def nodupL : List (List Nat) → Bool
  | [] => true
  | x :: xs => !(xs.any (eqL x)) && nodupL xs
theorem nodup_of : ∀ {ws : List Str}, nodupL (ws.map fun x => x.cps.toList) = true → ws.Nodup
  | [], _ => List.nodup_nil
  | x :: xs, h => by
    simp only [List.map_cons, nodupL, Bool.and_eq_true, Bool.not_eq_true'] at h
    refine List.nodup_cons.2 ⟨fun hx => ?_, nodup_of h.2⟩
    have : (xs.map fun x => x.cps.toList).any (eqL x.cps.toList) = true := List.any_eq_true.2 ⟨_, List.mem_map.2 ⟨x, hx, rfl⟩, eqL_refl _⟩
    rw [this] at h; exact absurd h.1 (by decide)
theorem isW_of {x : Str} (h : isWL x.cps.toList = true) : isW x = true := by
  simp only [isWL, Bool.and_eq_true, Bool.not_eq_true', List.all_eq_true] at h
  simp only [isW, Bool.and_eq_true, decide_eq_true_eq, Bool.not_eq_true', List.all_eq_true]
  refine ⟨⟨⟨Nat.le_of_ble_eq_true h.1.1.1, Nat.le_of_ble_eq_true h.1.1.2⟩, fun c hc => ⟨Nat.le_of_ble_eq_true (h.1.2 c hc).1, Nat.le_of_ble_eq_true (h.1.2 c hc).2⟩⟩, ?_⟩
  cases hc : outs.contains x with
  | false => rfl
  | true =>
    have hm : x ∈ outs := by simpa using hc
    have : outL.any (eqL x.cps.toList) = true := List.any_eq_true.2 ⟨_, List.mem_map.2 ⟨x, hm, rfl⟩, eqL_refl _⟩
    rw [this] at h; exact absurd h.2 (by decide)
def fineL (ws : List Str) : Bool := nodupL (ws.map fun x => x.cps.toList) && ws.all fun x => isWL x.cps.toList
theorem fine_of {ws : List Str} (h : fineL ws = true) : fine ws := by
  simp only [fineL, Bool.and_eq_true, List.all_eq_true] at h
  exact ⟨nodup_of h.1, fun x hx => isW_of (h.2 x hx)⟩
theorem fine0 {turn e : Nat} (ht : turn < 26) (he : e < 3) : fine ((List.range 16).map (wd0 turn e)) := by
  have h : ∀ turn < 26, ∀ e < 3, fineL ((List.range 16).map (wd0 turn e)) = true := by decide +kernel
  exact fine_of (h turn ht e he)
theorem fine1 {turn : Nat} (ht : turn < 26) : fine ((List.range 16).map (wd1 turn)) := by
  have h : ∀ turn < 26, fineL ((List.range 16).map (wd1 turn)) = true := by decide +kernel
  exact fine_of (h turn ht)
theorem fine2 {turn : Nat} (ht : turn < 26) : fine ((List.range 16).map (wd2 turn)) := by
  have h : ∀ turn < 26, fineL ((List.range 16).map (wd2 turn)) = true := by decide +kernel
  exact fine_of (h turn ht)
theorem fine_le {f : Nat → Str} {n : Nat} (hn : n ≤ 16) (h : fine ((List.range 16).map f)) : fine ((List.range n).map f) := by
  have hs : ((List.range n).map f).Sublist ((List.range 16).map f) := (List.range_sublist.2 hn).map f
  exact ⟨h.1.sublist hs, fun x hx => h.2 x (hs.subset hx)⟩

theorem abc : (Str.ofString "abcdefghijklmnopqrstuvwxyz").cps.toList = (List.range 26).map (97 + ·) := by decide +kernel
theorem abc_len : (Str.ofString "abcdefghijklmnopqrstuvwxyz").length = 26 := by decide +kernel
theorem abc_idx {j : Nat} (h : j < 26) : iIdx (.str "abcdefghijklmnopqrstuvwxyz") (.int (j : Int)) = some (.str (lett j)) := by
  rw [iIdx_str, abc, abc_len, if_pos (by decide)]
  rw [List.length_map, List.length_range, ixOf_nat h]
  simp [lett, h]
theorem len_ofString (s : String) : (Str.ofString s).length = s.toList.length := by
  rw [Str.ofString_eq_toList]; simp [Str.length]
theorem str_len_app (a b : Str) : (a ++ b).length = a.length + b.length := by
  show (a.cps ++ b.cps).size = _
  simp [Str.length]


def sts (ws : List Str) : List I := ws.map .str
@[simp] theorem sts_length (ws : List Str) : (sts ws).length = ws.length := by simp [sts]
theorem sts_get {ws : List Str} {j : Nat} (h : j < ws.length) : (sts ws)[j]? = some (.str ws[j]) := by simp [sts, h]
theorem words {wf k : Nat} (hk : 2 ≤ k) (v : Int) {n : Nat} (hn : n ≤ 16) :
    ∃ (ws : List Str) (v' : Int), (vctx VT wf k).call "_law_words" [tp v, .im (.int n)] = .ok (lstV (sts ws)) [tp v', .gone] ∧ ws.length = n ∧ fine ws := by
  obtain ⟨k, rfl⟩ := Nat.exists_eq_add_of_le' hk
  rw [vc__law_words _ rfl]
  obtain ⟨d, v1, e1, l1⟩ := digitE (wf := wf) (k := k + 1) (by omega) v (m := 3) (by decide) (by decide)
  obtain ⟨u, v2, e2, l2⟩ := digitE (wf := wf) (k := k + 1) (by omega) v1 (m := 26) (by decide) (by decide)
  have hb : inBound (n : Int) = true := inBound_nat (by omega)
  have hbig := bigN
  have key : ∀ (E : VE) (l : Ex) (i : Nat) (f : Nat → Str), (∀ j, j < n → vlcStep (vCtx VT wf (k + 1) [true, false]) l (.nm i) .none (.int (j : Int)) E = .ok (some (.im (.str (f j)))) E) → vlcGo (vlcStep (vCtx VT wf (k + 1) [true, false]) l (.nm i) .none) ((List.range n).map fun (k : Nat) => I.int (k : Int)) [] E = .ok ((sts ((List.range n).map f)).map .im) E := by
    intro E l i f h
    have := vlcGo_map0 (step := vlcStep (vCtx VT wf (k + 1) [true, false]) l (.nm i) .none) (E := E) (fun x => match x with | .int j => .str (f j.toNat) | x => x) ((List.range n).map fun (k : Nat) => I.int (k : Int)) (by simp; omega) (by
      intro x hx
      simp only [List.mem_map, List.mem_range] at hx
      obtain ⟨j, hj, rfl⟩ := hx
      simpa using h j hj)
    rw [this]
    simp [sts, List.map_map, Function.comp_def]
  have hd : d = 0 ∨ d = 1 ∨ d = 2 := by omega
  have l2 : u < 26 := by omega
  simp only [tp] at e1 e2
  rcases hd with rfl | rfl | rfl
  · obtain ⟨e, v3, e3, l3⟩ := digitE (wf := wf) (k := k + 1) (by omega) v2 (m := 3) (by decide) (by decide)
    have l3 : e < 3 := by omega
    simp only [tp] at e3
    have hk1 := key [lstV [.int v3], .im (.int n), .im (.str "abcdefghijklmnopqrstuvwxyz"), .im (.int 0), .im (.int u), .im (.str (ends e)), .gone, .gone] l1__law_words 6 (wd0 u e) (by
      intro j hj
      have hi := abc_idx (j := (u + j) % 26) (Nat.mod_lt _ (by decide))
      have hl : (lett ((u + j) % 26)).length + (ends e).length ≤ big := by
        have h1 : (lett ((u + j) % 26)).length = 1 := rfl
        have h2 : ∀ e < 3, (ends e).length ≤ 8 := by decide +kernel
        have := h2 e l3
        omega
      have hc : ((u : Int) + (j : Int)) % 26 = (((u + j) % 26 : Nat) : Int) := by omega
      have hw : lett ((u + j) % 26) ++ ends e = wd0 u e j := rfl
      generalize (u + j) % 26 = q at hc hi hl hw
      simp [vlcStep, tgFree, tgFree.free1, vSetTg, l1__law_words, hc, hi, hl, hw, unTg, -iIdx_str])
    refine ⟨(List.range n).map (wd0 u e), v3, ?_, by simp, fine_le hn (fine0 l2 l3)⟩
    have hix : [I.str "", I.str "a", I.str "omelons"][e]? = some (.str (ends e)) := by
      have : e = 0 ∨ e = 1 ∨ e = 2 := by omega
      rcases this with rfl | rfl | rfl <;> rfl
    have hi2 : ixOf 3 (e : Int) = some e := ixOf_nat l3
    simp [f__law_words, isGone_eq, tp, e1, e2, e3, hi2, hix, hb, hk1, mkL_map]
  · have hk1 := key [lstV [.int v2], .im (.int n), .im (.str "abcdefghijklmnopqrstuvwxyz"), .im (.int 1), .im (.int u), .gone, .gone, .gone] l2__law_words 6 (wd1 u) (by
      intro j hj
      have hi := abc_idx (j := (u + j / 8) % 26) (Nat.mod_lt _ (by decide))
      have hc : ((u : Int) + (j : Int) / 8) % 26 = (((u + j / 8) % 26 : Nat) : Int) := by omega
      have hl : (lett ((u + j / 8) % 26)).length ≤ 1000 := by
        have h1 : (lett ((u + j / 8) % 26)).length = 1 := rfl
        omega
      have hq : (1 + (j : Int) % 8) < 1000 ∧ -1000 < (1 + (j : Int) % 8) := by omega
      have hz : (1 + (j : Int) % 8).toNat = 1 + j % 8 := by omega
      have hf : ∀ m c : Nat, (List.replicate m [c]).flatten = List.replicate m c := fun m c => by
        induction m with
        | zero => rfl
        | succ m ih => simp [List.replicate_succ, ih]
      have hw : (⟨(List.replicate (1 + j % 8) (lett ((u + j / 8) % 26)).cps.toList).flatten.toArray⟩ : Str) = wd1 u j := by
        simp [lett, hf, wd1]
      generalize (u + j / 8) % 26 = q at hc hi hl hw
      simp [vlcStep, tgFree, tgFree.free1, vSetTg, l2__law_words, hc, hi, hl, hq, hz, hw, unTg, -iIdx_str])
    refine ⟨(List.range n).map (wd1 u), v2, ?_, by simp, fine_le hn (fine1 l2)⟩
    simp [f__law_words, isGone_eq, tp, e1, e2, hb, hk1, mkL_map]
  · have hk1 := key [lstV [.int v2], .im (.int n), .im (.str "abcdefghijklmnopqrstuvwxyz"), .im (.int 2), .im (.int u), .gone, .gone, lstV (sts wds)] l3__law_words 6 (wd2 u) (by
      intro j hj
      have hc : ((u : Int) + (j : Int)) % 18 = (((u + j) % 18 : Nat) : Int) := by omega
      have hi : ixOf (sts wds).length (((u + j) % 18 : Nat) : Int) = some ((u + j) % 18) := ixOf_nat (by
        have : (sts wds).length = 18 := rfl
        omega)
      have hg : (sts wds)[(u + j) % 18]? = some (.str (wd2 u j)) := by
        have h18 : (u + j) % 18 < 18 := Nat.mod_lt _ (by decide)
        simp only [wd2, sts]
        generalize (u + j) % 18 = q at h18
        simp [List.getElem?_map, List.getD, List.getElem?_eq_getElem (l := wds) (i := q) h18]
      generalize (u + j) % 18 = q at hc hi hg
      simp [vlcStep, tgFree, tgFree.free1, vSetTg, l3__law_words, hc, hi, hg, unTg, -sts_length])
    refine ⟨(List.range n).map (wd2 u), v2, ?_, by simp, fine_le hn (fine2 l2)⟩
    have hw : (lstV [I.str "give", .str "ask", .str "post", .str "plus", .str "less", .str "name", .str "number", .str "to", .str "as", .str "f", .str "x", .str "aq", .str "bq", .str "lets", .str "ifs", .str "ina", .str "homes", .str "q"]) = lstV (sts wds) := rfl
    simp [f__law_words, isGone_eq, tp, e1, e2, hb, hbig, hw, hk1, mkL_map]
end Wn
end
section
/-! W2: simple terms, and how they are drawn. -/
namespace Wn
open PySem

inductive St where
  | num (n : Nat)
  | nm (x : Str)
  | bin (l : Bool) (a b : St)
  deriving Inhabited
def opw (l : Bool) : Str := if l then "less" else "plus"
def St.i : St → I
  | .num n => .tup [.str "number", .int n]
  | .nm x => .tup [.str "name", .str x]
  | .bin l a b => .tup [.str (opw l), a.i, b.i]
/-- numbers are such, names are around -/
def St.ok (A : List Str) : St → Prop
  | .num n => n < 1000
  | .nm x => x ∈ A
  | .bin _ a b => a.ok A ∧ b.ok A
def St.size : St → Nat
  | .bin _ a b => a.size + b.size + 1
  | _ => 1
def St.deep : St → Nat
  | .bin _ a b => max a.deep b.deep + 1
  | _ => 0
theorem St.ok.mono {A B : List Str} (h : ∀ x ∈ A, x ∈ B) : ∀ {s : St}, s.ok A → s.ok B
  | .num _, g => g
  | .nm _, g => h _ g
  | .bin _ _ _, g => ⟨g.1.mono h, g.2.mono h⟩

@[simp] theorem opw_false : opw false = "plus" := rfl
@[simp] theorem opw_true : opw true = "less" := rfl
theorem sts_dv (A : List Str) : I.dvs (sts A) = some (A.map .str) := by
  induction A with
  | nil => simp [sts, I.dvs]
  | cons a A ih => simp only [sts, List.map_cons, I.dvs, I.dv] at ih ⊢; rw [ih]; rfl
theorem sts_lists (A : List Str) : I.listss (sts A) = 0 := by
  induction A with
  | nil => simp [sts, I.listss]
  | cons a A ih => simp only [sts, List.map_cons, I.listss, I.lists] at ih ⊢; omega
@[simp] theorem iEq_sts_nil (A : List Str) : iEq (.lst (sts A)) (.lst []) = some A.isEmpty := by
  simp only [iEq, I.dv, sts_dv, Option.map_some, I.dvs, I.lists, sts_lists, I.listss, DV.deep, DV.deepL]
  rw [if_pos (by omega)]
  cases A <;> simp
section
variable {wf k : Nat}
theorem number (hk : 2 ≤ k) (v : Int) : ∃ (n : Nat) (v' : Int), (vctx VT wf k).call "_law_number" [tp v] = .ok (.im (.int n)) [tp v'] ∧ n < 1000 := by
  obtain ⟨k, rfl⟩ := Nat.exists_eq_add_of_le' hk
  rw [vc__law_number _ rfl]
  obtain ⟨d, v1, e1, l1⟩ := digitE (wf := wf) (k := k + 1) (by omega) v (m := 6) (by decide) (by decide)
  by_cases h5 : d = 5
  · obtain ⟨n, v2, e2, l2⟩ := digitE (wf := wf) (k := k + 1) (by omega) v1 (m := 1000) (by decide) (by decide)
    subst h5
    simp only [tp] at e1 e2
    exact ⟨n, v2, by simp [f__law_number, isGone_eq, tp, e1, e2], by omega⟩
  · have hd : d < 5 := by omega
    have hx : ixOf 5 (d : Int) = some d := ixOf_nat hd
    have hg : ∃ n : Nat, [I.int 0, I.int 1, I.int 1, I.int 2, I.int 3][d]? = some (.int n) ∧ n < 1000 := by
      have : d = 0 ∨ d = 1 ∨ d = 2 ∨ d = 3 ∨ d = 4 := by omega
      rcases this with rfl | rfl | rfl | rfl | rfl
      · exact ⟨0, rfl, by decide⟩
      · exact ⟨1, rfl, by decide⟩
      · exact ⟨1, rfl, by decide⟩
      · exact ⟨2, rfl, by decide⟩
      · exact ⟨3, rfl, by decide⟩
    obtain ⟨n, hg, hn⟩ := hg
    have h5' : ¬ ((d : Int) = 5) := by omega
    simp only [tp] at e1
    exact ⟨n, v1, by simp [f__law_number, isGone_eq, tp, e1, h5', hx, hg], hn⟩
theorem leaf (hk : 3 ≤ k) (v : Int) (K : V) (A : List Str) (hA : A.length ≤ 1000) (hK : K = .gone ∨ goneV (some K) = false) : ∃ (s : St) (v' : Int), (vctx VT wf k).call "_law_leaf" [tp v, K, .im (.lst (sts A))] = .ok (.im s.i) [tp v', K, .gone] ∧ s.ok A ∧ s.size = 1 ∧ s.deep = 0 := by
  obtain ⟨k, rfl⟩ := Nat.exists_eq_add_of_le' hk
  rw [vc__law_leaf _ rfl]
  have num : ∀ v, ∃ (s : St) (v' : Int), (vctx VT wf (k + 2)).call "_law_number" [tp v] = .ok (.im (.int (match s with | .num n => n | _ => 0))) [tp v'] ∧ s.ok A ∧ s.size = 1 ∧ s.deep = 0 ∧ ∃ n : Nat, s = .num n := by
    intro v
    obtain ⟨n, v', e, l⟩ := number (wf := wf) (k := k + 2) (by omega) v
    exact ⟨.num n, v', e, l, rfl, rfl, n, rfl⟩
  cases A with
  | nil =>
    obtain ⟨s, v', e, h1, h2, h3, n, rfl⟩ := num v
    simp only [tp] at e
    refine ⟨.num n, v', ?_, h1, h2, h3⟩
    simp [f__law_leaf, isGone_eq, tp, e, St.i]
  | cons a A =>
    obtain ⟨d, v1, e1, l1⟩ := digitE (wf := wf) (k := k + 2) (by omega) v (m := 3) (by decide) (by decide)
    simp only [tp] at e1
    by_cases h0 : 0 < d
    · obtain ⟨j, v2, e2, l2⟩ := digitE (wf := wf) (k := k + 2) (by omega) v1 (m := ((A.length + 1 : Nat) : Int)) (by omega) (by simp at hA; omega)
      have hj : j < A.length + 1 := by omega
      have hx : ixOf (A.length + 1) (j : Int) = some j := ixOf_nat hj
      have hg : (sts (a :: A))[j]? = some (.str (a :: A)[j]) := sts_get hj
      simp only [tp] at e2
      refine ⟨.nm (a :: A)[j], v2, ?_, List.getElem_mem hj, rfl, rfl⟩
      simp only [List.length_cons, Int.natCast_add, Int.cast_ofNat_Int] at e2
      simp [f__law_leaf, isGone_eq, tp, e1, h0, e2, hx, hg, St.i]
    · obtain ⟨s, v', e, h1, h2, h3, n, rfl⟩ := num v1
      simp only [tp] at e
      refine ⟨.num n, v', ?_, h1, h2, h3⟩
      simp [f__law_leaf, isGone_eq, tp, e1, h0, e, St.i]
theorem less_one (hk : 1 ≤ k) (A : List Str) : ∃ s : St, (vctx VT wf k).call "_law_less_one" [.im (.lst (sts A))] = .ok (.im s.i) [.gone] ∧ s.ok A ∧ s.size ≤ 3 ∧ s.deep ≤ 1 := by
  obtain ⟨k, rfl⟩ := Nat.exists_eq_add_of_le' hk
  rw [vc__law_less_one _ rfl]
  cases A with
  | nil => exact ⟨.num 0, by simp [f__law_less_one, St.i], by simp [St.ok], by simp [St.size], by simp [St.deep]⟩
  | cons a A => exact ⟨.bin true (.nm a) (.num 1), by simp [f__law_less_one, St.i]; simp [sts], by simp [St.ok], by simp [St.size], by simp [St.deep]⟩
def nats (ss : List Nat) : List I := ss.map fun (n : Nat) => I.int (n : Int)
@[simp] theorem nats_length (ss : List Nat) : (nats ss).length = ss.length := by simp [nats]
theorem nats_get {ss : List Nat} {j : Nat} (h : j < ss.length) : (nats ss)[j]? = some (.int (ss[j] : Int)) := by simp [nats, h]
theorem nats_set (ss : List Nat) (j m : Nat) : (nats ss).set j (.int (m : Int)) = nats (ss.set j m) := by simp [nats, List.map_set]
theorem sum_set : ∀ {ss : List Nat} {j m : Nat} (h : j < ss.length), (ss.set j m).sum + ss[j] = ss.sum + m
  | s :: ss, 0, m, _ => by simp; omega
  | s :: ss, j + 1, m, h => by
    have := sum_set (ss := ss) (j := j) (m := m) (by simpa using h)
    simp; omega
theorem sum_replicate (n m : Nat) : (List.replicate n m).sum = n * m := by simp
theorem shares (hk : 2 ≤ k) (v : Int) {room many : Nat} (h1 : many ≤ room) (h2 : room ≤ 1000) (h3 : many ≤ 100) : ∃ (ss : List Nat) (v' : Int), (vctx VT wf k).call "_law_shares" [tp v, .im (.int room), .im (.int many)] = .ok (lstV (nats ss)) [tp v', .gone, .gone] ∧ ss.length = many ∧ (∀ s ∈ ss, 1 ≤ s) ∧ ss.sum ≤ room := by
  obtain ⟨k, rfl⟩ := Nat.exists_eq_add_of_le' hk
  rw [vc__law_shares _ rfl]
  have hb : inBound (many : Int) = true := inBound_nat (by omega)
  have hL := vforGo_inv (step := stepV (vCtx VT wf (k + 1) [true, false, false]) (.nm 5) b1__law_shares) (fun xs E => ∃ (ss : List Nat) (left : Nat) (v : Int), (∀ x ∈ xs, ∃ j : Nat, x = .int j ∧ j < many) ∧ ss.length = many ∧ (∀ s ∈ ss, 1 ≤ s) ∧ ss.sum + left ≤ room ∧ E = [lstV [.int v], .im (.int room), .im (.int many), lstV (nats ss), .im (.int left), .gone, .gone]) (by
    rintro x xs E ⟨ss, left, v, hx, hl, hp, hs, rfl⟩
    obtain ⟨j, rfl, hj⟩ := hx x (List.mem_cons_self ..)
    obtain ⟨m, v1, e1, l1⟩ := digitE (wf := wf) (k := k + 1) (by omega) v (m := (left : Int) + 1) (by omega) (by omega)
    have hj' : j < ss.length := by omega
    have hx1 : ixOf ss.length (j : Int) = some j := ixOf_nat hj'
    have hg := nats_get hj'
    have hst : (nats ss).set j (.int ((ss[j] : Int) + (m : Int))) = nats (ss.set j (ss[j] + m)) := by rw [← nats_set]; simp
    have hsum := sum_set (m := ss[j] + m) hj'
    simp only [tp] at e1
    refine ⟨[lstV [.int v1], .im (.int room), .im (.int many), lstV (nats (ss.set j (ss[j] + m))), .im (.int ((left - m : Nat) : Int)), .gone, .gone], ?_, ss.set j (ss[j] + m), left - m, v1, fun y hy => hx y (List.mem_cons_of_mem _ hy), by simp [hl], ?_, by omega, rfl⟩
    · have hc : (left : Int) - (m : Int) = ((left - m : Nat) : Int) := by omega
      simp [stepV, b1__law_shares, vSetTg, isGone_eq, e1, hx1, hg, hst, hc]
    · intro s hs'
      rcases List.mem_or_eq_of_mem_set hs' with h | h
      · exact hp s h
      · have := hp _ (List.getElem_mem hj'); omega)
  obtain ⟨E', e, ss, left, v', _, hl, hp, hs, rfl⟩ := hL ((List.range many).map fun (k : Nat) => I.int (k : Int)) [lstV [.int v], .im (.int room), .im (.int many), lstV (nats (List.replicate many 1)), .im (.int ((room - many : Nat) : Int)), .gone, .gone] ⟨List.replicate many 1, room - many, v, by
    intro x hx; simp only [List.mem_map, List.mem_range] at hx; obtain ⟨j, hj, rfl⟩ := hx; exact ⟨j, rfl, hj⟩, by simp, by intro s hs; simp at hs; omega, by simp; omega, rfl⟩
  refine ⟨ss, v', ?_, hl, hp, by omega⟩
  have hc : ((room - many : Nat) : Int) = (room : Int) - (many : Int) := by omega
  rw [hc] at e
  have hr : (List.replicate many [I.int 1]).flatten = nats (List.replicate many 1) := by
    clear e hL hc hb hl hp hs h1 h2 h3
    induction many with
    | zero => rfl
    | succ n ih => simp [List.replicate_succ, nats] at ih ⊢ <;> exact ih
  have h9 : (many : Int) < 1000 ∧ -1000 < (many : Int) := by omega
  simp [f__law_shares, isGone_eq, tp, h9, hb, hr, e]
theorem simple (deep : Nat) : ∀ {k : Nat} (hk : 4 + deep ≤ k) (v : Int) (A : List Str) (hA : A.length ≤ 1000), ∃ (s : St) (v' : Int), (vctx VT wf k).call "_law_simple" [tp v, .im (.lst (sts A)), .im (.int deep)] = .ok (.im s.i) [tp v', .gone, .gone] ∧ s.ok A ∧ s.deep ≤ deep ∧ s.size + 1 ≤ 2 ^ (deep + 1) := by
  induction deep with
  | zero =>
    intro k hk v A hA
    obtain ⟨k, rfl⟩ := Nat.exists_eq_add_of_le' (show 1 ≤ k by omega)
    rw [vc__law_simple _ rfl]
    obtain ⟨s, v1, e1, o, z, d⟩ := leaf (wf := wf) (k := k) (by omega) v (.obj (.dic []) []) A hA (.inr rfl)
    simp only [tp] at e1
    exact ⟨s, v1, by simp [f__law_simple, isGone_eq, tp, vPairs, e1], o, by omega, by omega⟩
  | succ deep ih =>
    intro k hk v A hA
    obtain ⟨k, rfl⟩ := Nat.exists_eq_add_of_le' (show 1 ≤ k by omega)
    rw [vc__law_simple _ rfl]
    obtain ⟨d, v1, e1, l1⟩ := digitE (wf := wf) (k := k) (by omega) v (m := 3) (by decide) (by decide)
    simp only [tp] at e1
    have hd1 : ¬ ((deep : Int) + 1 = 0) := by omega
    have hd2 : ((deep : Int) + 1 - 1) = deep := by omega
    have hp : 2 ^ (deep + 1 + 1) = 2 * 2 ^ (deep + 1) := by rw [Nat.pow_succ]; omega
    have hp1 : 2 ≤ 2 ^ (deep + 1) := by
      have : 1 ≤ 2 ^ deep := Nat.one_le_two_pow
      rw [Nat.pow_succ]; omega
    by_cases h0 : 0 < d
    · obtain ⟨s, v2, e2, o, z, dd⟩ := leaf (wf := wf) (k := k) (by omega) v1 (.obj (.dic []) []) A hA (.inr rfl)
      simp only [tp] at e2
      exact ⟨s, v2, by simp [f__law_simple, isGone_eq, tp, hd1, e1, h0, vPairs, e2], o, by omega, by omega⟩
    · obtain ⟨a, v2, e2, o2, dp2, z2⟩ := ih (k := k) (by omega) v1 A hA
      obtain ⟨l, v3, e3, l3⟩ := digitE (wf := wf) (k := k) (by omega) v2 (m := 2) (by decide) (by decide)
      obtain ⟨b, v4, e4, o4, dp4, z4⟩ := ih (k := k) (by omega) v3 A hA
      simp only [tp] at e2 e3 e4
      have hl : l = 0 ∨ l = 1 := by omega
      refine ⟨.bin (l == 1) a b, v4, ?_, ⟨o2, o4⟩, by simp [St.deep]; omega, by simp only [St.size]; omega⟩
      rcases hl with rfl | rfl
      · simp [f__law_simple, isGone_eq, tp, hd1, hd2, e1, h0, e2, e3, e4, St.i]
      · simp [f__law_simple, isGone_eq, tp, hd1, hd2, e1, h0, e2, e3, e4, St.i]
end
end Wn
end
section
/-! W3: turned parts, and how they are drawn. -/
namespace Wn
open PySem

inductive Tp where
  | give (j : Str) (s : St)
  | ask (f : Str) (ss : List St) (j : Str)
  /-- tell, or let -/
  | bnd (t : Bool) (x : Str) (s : St) (p : Tp)
  | ifs (s : St) (p q : Tp)
  | post (j x : Str) (p q : Tp)
  deriving Inhabited
def bndw (t : Bool) : Str := if t then "tell" else "let"
@[simp] theorem bndw_true : bndw true = "tell" := rfl
@[simp] theorem bndw_false : bndw false = "let" := rfl
def Tp.i : Tp → I
  | .give j s => .tup [.str "give", .str j, s.i]
  | .ask f ss j => .tup [.str "ask", .str f, .tup (ss.map St.i), .str j]
  | .bnd t x s p => .tup [.str (bndw t), .str x, s.i, p.i]
  | .ifs s p q => .tup [.str "if", s.i, p.i, q.i]
  | .post j x p q => .tup [.str "post", .str j, .str x, p.i, q.i]
def Tp.ok (hd : Str → Option Nat) (A H : List Str) : Tp → Prop
  | .give j s => j ∈ H ∧ s.ok A
  | .ask f ss j => hd f = some ss.length ∧ (∀ s ∈ ss, s.ok A) ∧ j ∈ H
  | .bnd _ x s p => s.ok A ∧ p.ok hd (A ++ [x]) H
  | .ifs s p q => s.ok A ∧ p.ok hd A H ∧ q.ok hd A H
  | .post j x p q => p.ok hd (A ++ [x]) H ∧ q.ok hd A (H ++ [j])
def Tp.words : Tp → List Str
  | .bnd _ x _ p => x :: p.words
  | .ifs _ p q => p.words ++ q.words
  | .post _ x p q => x :: (p.words ++ q.words)
  | _ => []
def Tp.posts : Tp → List Str
  | .bnd _ _ _ p => p.posts
  | .ifs _ p q => p.posts ++ q.posts
  | .post j _ p q => j :: (p.posts ++ q.posts)
  | _ => []
/-- how many turned parts -/
def Tp.size : Tp → Nat
  | .bnd _ _ _ p => p.size + 1
  | .ifs _ p q => p.size + q.size + 1
  | .post _ _ p q => p.size + q.size + 1
  | _ => 1
/-- within one another -/
def Tp.deep : Tp → Nat
  | .bnd _ _ _ p => p.deep + 1
  | .ifs _ p q => max p.deep q.deep + 1
  | .post _ _ p q => max p.deep q.deep + 1
  | _ => 0
/-- simple terms in it are this small, asks have this few -/
def Tp.small (n : Nat) : Tp → Prop
  | .give _ s => s.deep ≤ n
  | .ask _ ss _ => ss.length ≤ 4 ∧ ∀ s ∈ ss, s.deep ≤ n
  | .bnd _ _ s p => s.deep ≤ n ∧ p.small n
  | .ifs s p q => s.deep ≤ n ∧ p.small n ∧ q.small n
  | .post _ _ p q => p.small n ∧ q.small n
/-- goes to what is due -/
def Tp.straight (d : Str) : Tp → Prop
  | .give j _ => j = d
  | .ask _ _ j => j = d
  | .bnd _ _ _ p => p.straight d
  | .ifs _ p q => p.straight d ∧ q.straight d
  | .post j _ p q => p.straight d ∧ q.straight j
theorem Tp.size_pos : ∀ p : Tp, 1 ≤ p.size
  | .give _ _ => Nat.le_refl _
  | .ask _ _ _ => Nat.le_refl _
  | .bnd _ _ _ p => by simp [Tp.size]
  | .ifs _ p q => by simp [Tp.size]
  | .post _ _ p q => by simp [Tp.size]
theorem Tp.deep_lt : ∀ p : Tp, p.deep < p.size
  | .give _ _ => by simp [Tp.size, Tp.deep]
  | .ask _ _ _ => by simp [Tp.size, Tp.deep]
  | .bnd _ _ _ p => by have := p.deep_lt; simp [Tp.size, Tp.deep]; omega
  | .ifs _ p q => by have := p.deep_lt; have := q.deep_lt; simp [Tp.size, Tp.deep]; omega
  | .post _ _ p q => by have := p.deep_lt; have := q.deep_lt; simp [Tp.size, Tp.deep]; omega

/-- heads: a dict from errands to how many names -/
def hdk (hd : List (Str × Nat)) : List I := hd.map fun p => .str p.1
def hdv (hd : List (Str × Nat)) : List I := hd.map fun p => .int (p.2 : Int)
theorem hd_look (f : Str) : ∀ hd : List (Str × Nat), ((keyIx (.str f) (hdk hd)).bind fun j => (hdv hd)[j]?) = (hd.lookup f).map fun (n : Nat) => I.int (n : Int)
  | [] => rfl
  | (g, n) :: hd => by
    have ih := hd_look f hd
    simp only [hdk, hdv, List.map_cons, keyIx, I.str.injEq] at ih ⊢
    by_cases e : g = f
    · subst e; simp [List.lookup]
    · rw [if_neg e]
      have e2 : (f == g) = false := by rw [beq_eq_false_iff_ne]; exact Ne.symm e
      simp only [List.lookup, e2, ← ih]
      cases keyIx (I.str f) (hd.map fun p => I.str p.1) <;> simp
def kn (es : List Str) (hd : List (Str × Nat)) (ws : List Str) (room : Nat) (ps : List Str) (st : Bool) : V :=
  .obj (.dic [.str "errands", .str "heads", .str "words", .str "room", .str "posts", .str "straight"]) [.im (.lst (sts es)), .im (.dic (hdk hd) (hdv hd)), lstV (sts ws), .im (.int room), lstV (sts ps), .im (.bl st)]
@[simp] theorem sts_append (a b : List Str) : sts (a ++ b) = sts a ++ sts b := by simp [sts]
@[simp] theorem sts_one (a : Str) : sts [a] = [.str a] := rfl
@[simp] theorem iEq_snoc_nil (a : List Str) (x : Str) : iEq (.lst (sts a ++ [.str x])) (.lst []) = some false := by
  have := iEq_sts_nil (a ++ [x])
  rw [sts_append, sts_one] at this
  rw [this]; cases a <;> rfl
theorem ixOf_last {n : Nat} (h : 0 < n) : ixOf n (-1) = some (n - 1) := by
  simp only [ixOf]
  rw [if_neg (by omega), if_pos (by omega)]
  congr 1; omega
section
variable {wf k : Nat} {es : List Str} {hd : List (Str × Nat)} {room0 : Nat} {st : Bool}
/-- what is around in the drawing of an errand -/
structure Kn (es : List Str) (hd : List (Str × Nat)) : Prop where
  e1 : 0 < es.length
  e2 : es.length ≤ 100
  h1 : ∀ f ∈ es, ∃ n, hd.lookup f = some n ∧ n ≤ 4
theorem some_hand (hk : 2 ≤ k) (v : Int) (ws ps H : List Str) (h0 : 0 < H.length) (h1 : H.length ≤ 1000) : ∃ (j : Str) (v' : Int), (vctx VT wf k).call "_law_some_hand" [tp v, kn es hd ws room0 ps st, .im (.lst (sts H))] = .ok (.im (.str j)) [tp v', kn es hd ws room0 ps st, .gone] ∧ j ∈ H ∧ (st = true → H.getLast? = some j) := by
  obtain ⟨k, rfl⟩ := Nat.exists_eq_add_of_le' hk
  rw [vc__law_some_hand _ rfl]
  have hl := ixOf_last h0
  have hg : (sts H)[H.length - 1]? = some (.str H[H.length - 1]) := sts_get (by omega)
  have hlast : H.getLast? = some H[H.length - 1] := by rw [List.getLast?_eq_getElem?]; simp [show H.length - 1 < H.length by omega]
  cases st with
  | true =>
    refine ⟨H[H.length - 1], v, ?_, List.getElem_mem _, fun _ => hlast⟩
    simp [f__law_some_hand, kn, stepIx, keyIx, hl, hg]
  | false =>
    obtain ⟨d, v1, e1, l1⟩ := digitE (wf := wf) (k := k + 1) (by omega) v (m := 3) (by decide) (by decide)
    simp only [tp] at e1
    by_cases h0' : 0 < d
    · refine ⟨H[H.length - 1], v1, ?_, List.getElem_mem _, fun _ => hlast⟩
      simp [f__law_some_hand, isGone_eq, tp, kn, stepIx, keyIx, hl, hg, e1, h0']
    · obtain ⟨j, v2, e2, l2⟩ := digitE (wf := wf) (k := k + 1) (by omega) v1 (m := (H.length : Int)) (by omega) (by omega)
      have hj : j < H.length := by omega
      have hx : ixOf H.length (j : Int) = some j := ixOf_nat hj
      have hg2 := sts_get hj
      simp only [tp] at e2
      refine ⟨H[j], v2, ?_, List.getElem_mem _, fun h => by cases h⟩
      simp [f__law_some_hand, isGone_eq, tp, kn, stepIx, keyIx, hx, hg2, e1, h0', e2]
theorem end_ (hk : 6 ≤ k) (K : Kn es hd) (v : Int) (ws ps A H : List Str) (hA : A.length ≤ 1000) (h0 : 0 < H.length) (h1 : H.length ≤ 1000) : ∃ (p : Tp) (v' : Int), (vctx VT wf k).call "_law_end" [tp v, kn es hd ws room0 ps st, .im (.lst (sts A)), .im (.lst (sts H))] = .ok (.im p.i) [tp v', kn es hd ws room0 ps st, .gone, .gone] ∧ p.ok (fun f => hd.lookup f) A H ∧ p.words = [] ∧ p.posts = [] ∧ p.size = 1 ∧ p.deep = 0 ∧ p.small 1 ∧ (st = true → ∀ d, H.getLast? = some d → p.straight d) := by
  obtain ⟨k, rfl⟩ := Nat.exists_eq_add_of_le' hk
  rw [vc__law_end _ rfl]
  obtain ⟨n, v1, e1, l1⟩ := digitE (wf := wf) (k := k + 5) (by omega) v (m := (es.length : Int)) (by have := K.e1; omega) (by have := K.e2; omega)
  have hn : n < es.length := by omega
  have hx : ixOf es.length (n : Int) = some n := ixOf_nat hn
  have hg := sts_get hn
  obtain ⟨j, v2, e2, hj, hst⟩ := some_hand (wf := wf) (k := k + 5) (es := es) (hd := hd) (room0 := room0) (st := st) (by omega) v1 ws ps H h0 h1
  obtain ⟨b, v3, e3, l3⟩ := digitE (wf := wf) (k := k + 5) (by omega) v2 (m := 2) (by decide) (by decide)
  simp only [tp] at e1 e2 e3
  simp only [kn] at e2
  by_cases hb : b = 0
  · obtain ⟨s, v4, e4, o4, d4, z4⟩ := simple (wf := wf) 1 (k := k + 5) (by omega) v3 A hA
    simp only [tp] at e4
    simp only [Int.cast_ofNat_Int] at e4
    refine ⟨.give j s, v4, ?_, ⟨hj, o4⟩, rfl, rfl, rfl, rfl, d4, fun h d hd => ?_⟩
    · subst hb
      simp [f__law_end, isGone_eq, tp, kn, stepIx, keyIx, e1, hx, hg, e2, e3, e4, Tp.i]
    · have := hst h; rw [this] at hd; cases hd; rfl
  · obtain ⟨m, hm, hm4⟩ := K.h1 es[n] (List.getElem_mem hn)
    have hlk := hd_look es[n] hd
    rw [hm] at hlk
    have hbm : inBound (m : Int) = true := inBound_nat (by omega)
    have hb' : ¬ ((b : Int) = 0) := by omega
    have hL := vforGo_inv (step := stepV (vCtx VT wf (k + 5) [true, true, false, false]) (.nm 7) b1__law_end) (fun xs E => ∃ (ss : List St) (v : Int), (∃ c : Nat, xs = (List.range' c (m - c)).map (fun (k : Nat) => I.int (k : Int)) ∧ c ≤ m ∧ ss.length = c) ∧ (∀ s ∈ ss, s.ok A) ∧ (∀ s ∈ ss, s.deep ≤ 1) ∧ E = [lstV [.int v], kn es hd ws room0 ps st, .im (.lst (sts A)), .im (.lst (sts H)), .im (.str es[n]), .im (.str j), lstV (ss.map St.i), .gone]) (by
      rintro x xs E ⟨ss, v, ⟨c, hxs, hc, hlen⟩, ho, hdp, rfl⟩
      obtain ⟨m', hm'⟩ : ∃ m', m - c = m' + 1 := by
        cases h : m - c with
        | zero => rw [h] at hxs; simp at hxs
        | succ m' => exact ⟨m', rfl⟩
      rw [hm', List.range'_succ, List.map_cons] at hxs
      obtain ⟨rfl, rfl⟩ := List.cons.inj hxs
      have hin : m' = m - (c + 1) := by omega
      have hbig : ss.length < big := by have := bigN; omega
      have fin : ∀ (s : St) (v5 : Int), s.ok A → s.deep ≤ 1 → ∃ (ss2 : List St) (v : Int), (∃ c2 : Nat, (List.range' (c + 1) m').map (fun (k : Nat) => I.int (k : Int)) = (List.range' c2 (m - c2)).map (fun (k : Nat) => I.int (k : Int)) ∧ c2 ≤ m ∧ ss2.length = c2) ∧ (∀ s ∈ ss2, s.ok A) ∧ (∀ s ∈ ss2, s.deep ≤ 1) ∧ [lstV [.int v5], kn es hd ws room0 ps st, .im (.lst (sts A)), .im (.lst (sts H)), .im (.str es[n]), .im (.str j), lstV (ss.map St.i ++ [s.i]), .gone] = [lstV [.int v], kn es hd ws room0 ps st, .im (.lst (sts A)), .im (.lst (sts H)), .im (.str es[n]), .im (.str j), lstV (ss2.map St.i), .gone] := by
        intro s v5 h1 h2
        refine ⟨ss ++ [s], v5, ⟨c + 1, by rw [hin], by omega, by simp [hlen]⟩, ?_, ?_, by simp⟩
        · intro u hu; rcases List.mem_append.1 hu with h | h
          · exact ho u h
          · simp at h; subst h; exact h1
        · intro u hu; rcases List.mem_append.1 hu with h | h
          · exact hdp u h
          · simp at h; subst h; exact h2
      have alt : ∀ v4 : Int, ∃ (s : St) (v5 : Int), (vctx VT wf (k + 5)).call "_law_simple" [lstV [.int v4], .im (.lst (sts A)), .im (.int 1)] = .ok (.im s.i) [lstV [.int v5], .gone, .gone] ∧ s.ok A ∧ s.deep ≤ 1 := by
        intro v4
        obtain ⟨s, v5, e5, o5, d5, z5⟩ := simple (wf := wf) 1 (k := k + 5) (by omega) v4 A hA
        simp only [tp, Int.cast_ofNat_Int] at e5
        exact ⟨s, v5, e5, o5, d5⟩
      by_cases hc0 : c = 0
      · obtain ⟨q, v4, e4, l4⟩ := digitE (wf := wf) (k := k + 5) (by omega) v (m := 4) (by decide) (by decide)
        simp only [tp] at e4
        by_cases hq : 0 < q
        · obtain ⟨s, e5, o5, z5, d5⟩ := less_one (wf := wf) (k := k + 5) (by omega) A
          refine ⟨_, ?_, fin s v4 o5 d5⟩
          simp [stepV, b1__law_end, vSetTg, isGone_eq, hc0, e4, hq, e5, hbig, kn]
        · obtain ⟨s, v5, e5, o5, d5⟩ := alt v4
          refine ⟨_, ?_, fin s v5 o5 d5⟩
          simp [stepV, b1__law_end, vSetTg, isGone_eq, hc0, e4, hq, e5, hbig, kn]
      · obtain ⟨s, v5, e5, o5, d5⟩ := alt v
        refine ⟨_, ?_, fin s v5 o5 d5⟩
        simp [stepV, b1__law_end, vSetTg, isGone_eq, hc0, e5, hbig, kn])
    obtain ⟨E', e, ss, v', ⟨c, hc, hcm, hlen⟩, ho, hdp, rfl⟩ := hL ((List.range m).map fun (k : Nat) => I.int (k : Int)) [lstV [.int v3], kn es hd ws room0 ps st, .im (.lst (sts A)), .im (.lst (sts H)), .im (.str es[n]), .im (.str j), lstV [], .gone] ⟨[], v3, ⟨0, by rw [List.range_eq_range']; rfl, by omega, rfl⟩, by simp, by simp, rfl⟩
    have hcm' : c = m := by
      cases h : m - c with
      | zero => omega
      | succ m' => rw [h, List.range'_succ] at hc; simp at hc
    refine ⟨.ask es[n] ss j, v', ?_, ⟨by simp [hm, hlen, hcm'], ho, hj⟩, rfl, rfl, rfl, rfl, ⟨by omega, hdp⟩, fun h d hd => ?_⟩
    · simp only [kn] at e
      simp [f__law_end, isGone_eq, tp, kn, stepIx, keyIx, e1, hx, hg, e2, e3, hb, hlk, hbm, e, Tp.i]
    · have := hst h; rw [this] at hd; cases hd; rfl
end
end Wn
end
section
/-! W4: turned parts and bodies drawn. -/
namespace Wn
open PySem
section
variable {wf : Nat} {es : List Str} {hd : List (Str × Nat)} {room0 : Nat} {st : Bool}
/-- what is drawn, and what is left of words and posts -/
structure Drawn (hd : List (Str × Nat)) (st : Bool) (A H ws ps ws' ps' : List Str) (room d : Nat) (p : Tp) : Prop where
  ok : p.ok (fun f => hd.lookup f) A H
  w : ∃ W, ws = ws' ++ W ∧ p.words.Sublist W.reverse
  j : ∃ J, ps = ps' ++ J ∧ p.posts.Sublist J.reverse
  l : ws'.length ≤ ps'.length
  size : p.size ≤ room
  deep : p.deep ≤ d
  small : p.small 1
  straight : st = true → ∀ d, H.getLast? = some d → p.straight d
theorem Drawn.mono {A H ws ps ws' ps' : List Str} {room d room2 d2 : Nat} {p : Tp} (h : Drawn hd st A H ws ps ws' ps' room d p) (h1 : room ≤ room2) (h2 : d ≤ d2) : Drawn hd st A H ws ps ws' ps' room2 d2 p :=
  ⟨h.ok, h.w, h.j, h.l, Nat.le_trans h.size h1, Nat.le_trans h.deep h2, h.small, h.straight⟩
theorem words8 {q : Nat} (h : q < 8) : ∃ w, [I.str "tell", I.str "let", I.str "if", I.str "if", I.str "post", I.str "post", I.str "post", I.str "post"][q]? = some (.str w) ∧ (w = bndw true ∨ w = bndw false ∨ w = "if" ∨ w = "post") := by
  have : q = 0 ∨ q = 1 ∨ q = 2 ∨ q = 3 ∨ q = 4 ∨ q = 5 ∨ q = 6 ∨ q = 7 := by omega
  rcases this with rfl | rfl | rfl | rfl | rfl | rfl | rfl | rfl
  · exact ⟨_, rfl, .inl rfl⟩
  · exact ⟨_, rfl, .inr (.inl rfl)⟩
  all_goals first | exact ⟨_, rfl, .inr (.inr (.inl rfl))⟩ | exact ⟨_, rfl, .inr (.inr (.inr rfl))⟩
theorem twoN {ss : List Nat} (h : ss.length = 2) : ∃ a b, ss = [a, b] := by
  match ss, h with
  | [a, b], _ => exact ⟨a, b, rfl⟩
theorem getLast_snoc (H : List Str) (j : Str) : (H ++ [j]).getLast? = some j := by simp
theorem part (K : Kn es hd) (d : Nat) : ∀ {k : Nat} (hk : d + 8 ≤ k) (v : Int) (ws ps A H : List Str) (room : Nat) (hA : A.length + d ≤ 1000) (h0 : 0 < H.length) (hH : H.length + d ≤ 1000) (r1 : 1 ≤ room) (r2 : room ≤ 1000) (hw : ws.length ≤ ps.length),
    ∃ (p : Tp) (v' : Int) (ws' ps' : List Str), (vctx VT wf k).call "_law_part" [tp v, kn es hd ws room0 ps st, .im (.lst (sts A)), .im (.lst (sts H)), .im (.int room), .im (.int d)] = .ok (.im p.i) [tp v', kn es hd ws' room0 ps' st, .gone, .gone, .gone, .gone] ∧ Drawn hd st A H ws ps ws' ps' room d p := by
  induction d with
  | zero =>
    intro k hk v ws ps A H room hA h0 hH r1 r2 hw
    obtain ⟨k, rfl⟩ := Nat.exists_eq_add_of_le' (show 1 ≤ k by omega)
    rw [vc__law_part _ rfl]
    obtain ⟨p, v1, e1, o, w0, p0, z, dp, sm, stt⟩ := end_ (wf := wf) (k := k) (room0 := room0) (st := st) (by omega) K v ws ps A H (by omega) h0 (by omega)
    simp only [tp, kn] at e1
    refine ⟨p, v1, ws, ps, ?_, o, ⟨[], by simp, by simp [w0]⟩, ⟨[], by simp, by simp [p0]⟩, hw, by omega, by omega, sm, stt⟩
    by_cases hr : (room : Int) < 3
    · simp [f__law_part, isGone_eq, tp, kn, hr, e1]
    · simp [f__law_part, isGone_eq, tp, kn, hr, e1]
  | succ d ih =>
    intro k hk v ws ps A H room hA h0 hH r1 r2 hw
    obtain ⟨k, rfl⟩ := Nat.exists_eq_add_of_le' (show 1 ≤ k by omega)
    rw [vc__law_part _ rfl]
    have hd1 : ((d : Int) + 1 - 1) = (d : Int) := by omega
    have hd0 : ¬ ((d : Int) + 1 = 0) := by omega
    have hbig := bigN
    have fin : ∀ v, ∃ (p : Tp) (v' : Int), (vctx VT wf k).call "_law_end" [tp v, kn es hd ws room0 ps st, .im (.lst (sts A)), .im (.lst (sts H))] = .ok (.im p.i) [tp v', kn es hd ws room0 ps st, .gone, .gone] ∧ Drawn hd st A H ws ps ws ps room (d + 1) p := by
      intro v
      obtain ⟨p, v1, e1, o, w0, p0, z, dp, sm, stt⟩ := end_ (wf := wf) (k := k) (room0 := room0) (st := st) (by omega) K v ws ps A H (by omega) h0 (by omega)
      exact ⟨p, v1, e1, o, ⟨[], by simp, by simp [w0]⟩, ⟨[], by simp, by simp [p0]⟩, hw, by omega, by omega, sm, stt⟩
    by_cases hr : (room : Int) < 3
    · obtain ⟨p, v1, e1, D⟩ := fin v
      simp only [tp, kn] at e1
      refine ⟨p, v1, ws, ps, ?_, D⟩
      simp [f__law_part, isGone_eq, tp, kn, hr, e1]
    obtain ⟨q, v1, e1, l1⟩ := digitE (wf := wf) (k := k) (by omega) v (m := 8) (by decide) (by decide)
    obtain ⟨w, hq, hword⟩ := words8 (q := q) (by omega)
    have hx : ixOf 8 (q : Int) = some q := ixOf_nat (by omega)
    simp only [tp] at e1
    have hrm : ((room : Int) - 1) = ((room - 1 : Nat) : Int) := by omega
    by_cases hif : w = "if"
    · subst hif
      obtain ⟨c, v2, e2, o2, d2, z2⟩ := simple (wf := wf) 1 (k := k) (by omega) v1 A (by omega)
      obtain ⟨ss, v3, e3, l3, g3, s3⟩ := shares (wf := wf) (k := k) (by omega) v2 (room := room - 1) (many := 2) (by omega) (by omega) (by omega)
      obtain ⟨a, b, rfl⟩ := twoN l3
      have ha := g3 a (by simp)
      have hb := g3 b (by simp)
      simp at s3
      obtain ⟨p, v4, ws1, ps1, e4, D4⟩ := ih (k := k) (by omega) v3 ws ps A H a (by omega) h0 (by omega) ha (by omega) hw
      obtain ⟨p2, v5, ws2, ps2, e5, D5⟩ := ih (k := k) (by omega) v4 ws1 ps1 A H b (by omega) h0 (by omega) hb (by omega) D4.l
      simp only [tp, kn, Int.cast_ofNat_Int] at e2 e3 e4 e5
      refine ⟨.ifs c p p2, v5, ws2, ps2, ?_, ⟨o2, D4.ok, D5.ok⟩, ?_, ?_, D5.l, ?_, ?_, ⟨d2, D4.small, D5.small⟩, fun h d hd => ⟨D4.straight h d hd, D5.straight h d hd⟩⟩
      · simp [f__law_part, isGone_eq, tp, kn, hr, hd0, e1, hx, hq, e2, hrm, e3, nats, hd1, e4, e5, Tp.i]
      · obtain ⟨W1, e1, u1⟩ := D4.w
        obtain ⟨W2, e2, u2⟩ := D5.w
        refine ⟨W2 ++ W1, by rw [e1, e2]; simp, ?_⟩
        simp only [Tp.words, List.reverse_append]
        exact u1.append u2
      · obtain ⟨W1, e1, u1⟩ := D4.j
        obtain ⟨W2, e2, u2⟩ := D5.j
        refine ⟨W2 ++ W1, by rw [e1, e2]; simp, ?_⟩
        simp only [Tp.posts, List.reverse_append]
        exact u1.append u2
      · have := D4.size; have := D5.size; simp only [Tp.size]; omega
      · have := D4.deep; have := D5.deep; simp only [Tp.deep]; omega
    · rcases List.eq_nil_or_concat ws with hws | ⟨ws1, x, hws⟩
      · obtain ⟨p, v2, e2, D⟩ := fin v1
        subst hws
        simp only [tp, kn] at e2
        refine ⟨p, v2, [], ps, ?_, D⟩
        simp [f__law_part, isGone_eq, tp, kn, hr, hd0, e1, hx, hq, hif, stepIx, keyIx, e2]
      · rw [List.concat_eq_append] at hws
        subst hws
        by_cases hpo : w = "post"
        · subst hpo
          rcases List.eq_nil_or_concat ps with hps | ⟨ps1, j, hps⟩
          · subst hps; simp at hw
          rw [List.concat_eq_append] at hps
          subst hps
          have hw1 : ws1.length ≤ ps1.length := by simpa using hw
          obtain ⟨ss, v3, e3, l3, g3, s3⟩ := shares (wf := wf) (k := k) (by omega) v1 (room := room - 1) (many := 2) (by omega) (by omega) (by omega)
          obtain ⟨a, b, rfl⟩ := twoN l3
          have ha := g3 a (by simp)
          have hb := g3 b (by simp)
          simp at s3
          obtain ⟨p, v4, ws2, ps2, e4, D4⟩ := ih (k := k) (by omega) v3 ws1 ps1 (A ++ [x]) H a (by simp; omega) h0 (by omega) ha (by omega) hw1
          obtain ⟨z, v5, e5, l5⟩ := digitE (wf := wf) (k := k) (by omega) v4 (m := 8) (by decide) (by decide)
          -- T, or a give in its stead
          have mid : ∃ (p' : Tp) (v6 : Int), p'.ok (fun f => hd.lookup f) (A ++ [x]) H ∧ p'.words.Sublist p.words ∧ p'.posts.Sublist p.posts ∧ p'.size ≤ p.size ∧ p'.deep ≤ p.deep ∧ p'.small 1 ∧ (st = true → ∀ d, H.getLast? = some d → p'.straight d) ∧
              ((z = 0 ∧ ∃ h, p' = .give h (.nm x) ∧ (vctx VT wf k).call "_law_some_hand" [tp v5, kn es hd ws2 room0 ps2 st, .im (.lst (sts H))] = .ok (.im (.str h)) [tp v6, kn es hd ws2 room0 ps2 st, .gone]) ∨ (z ≠ 0 ∧ p' = p ∧ v6 = v5)) := by
            by_cases hz : z = 0
            · obtain ⟨h, v6, e6, hj, hst⟩ := some_hand (wf := wf) (k := k) (es := es) (hd := hd) (room0 := room0) (st := st) (by omega) v5 ws2 ps2 H h0 (by omega)
              exact ⟨.give h (.nm x), v6, ⟨hj, by simp [St.ok]⟩, by simp [Tp.words], by simp [Tp.posts], by simp only [Tp.size]; exact p.size_pos, by simp [Tp.deep], by simp [Tp.small, St.deep], fun h' d hd => by have := hst h'; rw [this] at hd; cases hd; rfl, .inl ⟨hz, h, rfl, e6⟩⟩
            · exact ⟨p, v5, D4.ok, List.Sublist.refl _, List.Sublist.refl _, Nat.le_refl _, Nat.le_refl _, D4.small, D4.straight, .inr ⟨hz, rfl, rfl⟩⟩
          obtain ⟨p', v6, m1, m2, m3, m4, m5, m6, m7, m8⟩ := mid
          obtain ⟨p2, v7, ws3, ps3, e7, D7⟩ := ih (k := k) (by omega) v6 ws2 ps2 A (H ++ [j]) b (by omega) (by simp) (by simp; omega) hb (by omega) D4.l
          simp only [tp, kn, Int.cast_ofNat_Int, sts_append, sts_one] at e3 e4 e5 e7
          refine ⟨.post j x p' p2, v7, ws3, ps3, ?_, ⟨m1, D7.ok⟩, ?_, ?_, D7.l, ?_, ?_, ⟨m6, D7.small⟩, fun h d hd => ⟨m7 h d hd, D7.straight h j (getLast_snoc H j)⟩⟩
          · have b1 : A.length + 1 ≤ big := by omega
            have b2 : H.length + 1 ≤ big := by omega
            rcases m8 with ⟨hz, h, rfl, e6⟩ | ⟨hz, rfl, rfl⟩
            · simp only [tp, kn] at e6
              simp [f__law_part, isGone_eq, tp, kn, hr, hd0, e1, hx, hq, stepIx, keyIx, hrm, e3, nats, b1, b2, hd1, e4, e5, hz, e6, e7, Tp.i, St.i]
            · simp [f__law_part, isGone_eq, tp, kn, hr, hd0, e1, hx, hq, stepIx, keyIx, hrm, e3, nats, b1, b2, hd1, e4, e5, hz, e7, Tp.i]
          · obtain ⟨W1, f1, u1⟩ := D4.w
            obtain ⟨W2, f2, u2⟩ := D7.w
            refine ⟨W2 ++ (W1 ++ [x]), by rw [f1, f2]; simp, ?_⟩
            simp only [Tp.words, List.reverse_append, List.reverse_cons, List.reverse_nil, List.nil_append, List.cons_append]
            exact ((m2.trans u1).append u2).cons₂ x
          · obtain ⟨W1, f1, u1⟩ := D4.j
            obtain ⟨W2, f2, u2⟩ := D7.j
            refine ⟨W2 ++ (W1 ++ [j]), by rw [f1, f2]; simp, ?_⟩
            simp only [Tp.posts, List.reverse_append, List.reverse_cons, List.reverse_nil, List.nil_append, List.cons_append]
            exact ((m3.trans u1).append u2).cons₂ j
          · have := D4.size; have := D7.size; simp only [Tp.size]; omega
          · have := D4.deep; have := D7.deep; simp only [Tp.deep]; omega
        · obtain ⟨t, rfl⟩ : ∃ t, w = bndw t := by
            rcases hword with h | h | h | h
            · exact ⟨true, h⟩
            · exact ⟨false, h⟩
            · exact absurd h hif
            · exact absurd h hpo
          have hw1 : ws1.length ≤ ps.length := by simp at hw; omega
          obtain ⟨c, v2, e2, o2, d2, z2⟩ := simple (wf := wf) 1 (k := k) (by omega) v1 A (by omega)
          obtain ⟨p, v4, ws2, ps2, e4, D4⟩ := ih (k := k) (by omega) v2 ws1 ps (A ++ [x]) H (room - 1) (by simp; omega) h0 (by omega) (by omega) (by omega) hw1
          simp only [tp, kn, Int.cast_ofNat_Int, sts_append, sts_one] at e2 e4
          refine ⟨.bnd t x c p, v4, ws2, ps2, ?_, ⟨o2, D4.ok⟩, ?_, D4.j, D4.l, ?_, ?_, ⟨d2, D4.small⟩, D4.straight⟩
          · have b1 : A.length + 1 ≤ big := by omega
            simp [f__law_part, isGone_eq, tp, kn, hr, hd0, e1, hx, hq, hif, hpo, stepIx, keyIx, hrm, e2, b1, hd1, e4, Tp.i]
          · obtain ⟨W1, f1, u1⟩ := D4.w
            refine ⟨W1 ++ [x], by rw [f1]; simp, ?_⟩
            simp only [Tp.words, List.reverse_append, List.reverse_cons, List.reverse_nil, List.nil_append, List.cons_append]
            exact u1.cons₂ x
          · have := D4.size; simp only [Tp.size]; omega
          · have := D4.deep; simp only [Tp.deep]; omega
end
end Wn
end
section
/-! W5: turned books drawn. -/
namespace Wn
open PySem
section
variable {wf k : Nat} {es : List Str} {hd : List (Str × Nat)} {room0 : Nat} {st : Bool}
theorem tbody (hk : 17 ≤ k) (K : Kn es hd) (v : Int) (ws ps N : List Str) (hN : N.length ≤ 100) (r1 : 1 ≤ room0) (r2 : room0 ≤ 100) (hw : ws.length ≤ ps.length) :
    ∃ (p : Tp) (v' : Int) (ws' ps' : List Str), (vctx VT wf k).call "_law_turned_body" [tp v, kn es hd ws room0 ps st, .im (.lst (sts N))] = .ok (.im p.i) [tp v', kn es hd ws' room0 ps' st, .gone] ∧ Drawn hd st N ["home"] ws ps ws' ps' (room0 + 4) 8 p := by
  obtain ⟨k, rfl⟩ := Nat.exists_eq_add_of_le' hk
  rw [vc__law_turned_body _ rfl]
  have plain : ∀ v, ∃ (p : Tp) (v' : Int) (ws' ps' : List Str), (vctx VT wf (k + 16)).call "_law_part" [tp v, kn es hd ws room0 ps st, .im (.lst (sts N)), .im (.lst [.str "home"]), .im (.int room0), .im (.int 8)] = .ok (.im p.i) [tp v', kn es hd ws' room0 ps' st, .gone, .gone, .gone, .gone] ∧ Drawn hd st N ["home"] ws ps ws' ps' (room0 + 4) 8 p := by
    intro v
    obtain ⟨p, v', ws', ps', e, D⟩ := part (wf := wf) (room0 := room0) (st := st) K 8 (k := k + 16) (by omega) v ws ps N ["home"] room0 (by omega) (by simp) (by simp) r1 (by omega) hw
    simp only [sts_one, Int.cast_ofNat_Int] at e
    exact ⟨p, v', ws', ps', e, D.mono (by omega) (Nat.le_refl _)⟩
  cases N with
  | nil =>
    obtain ⟨p, v', ws', ps', e, D⟩ := plain v
    simp only [tp, kn] at e
    refine ⟨p, v', ws', ps', ?_, D⟩
    simp [f__law_turned_body, isGone_eq, tp, kn, stepIx, keyIx, e]
  | cons a N =>
    obtain ⟨q, v1, e1, l1⟩ := digitE (wf := wf) (k := k + 16) (by omega) v (m := 4) (by decide) (by decide)
    simp only [tp] at e1
    by_cases hq : 0 < q
    · obtain ⟨p, v2, ws1, ps1, e2, D2⟩ := part (wf := wf) (room0 := room0) (st := st) K 7 (k := k + 16) (by omega) v1 ws ps (a :: N) ["home"] room0 (by omega) (by simp) (by simp) r1 (by omega) hw
      obtain ⟨p2, v3, ws2, ps2, e3, D3⟩ := part (wf := wf) (room0 := room0) (st := st) K 2 (k := k + 16) (by omega) v2 ws1 ps1 (a :: N) ["home"] 3 (by omega) (by simp) (by simp) (by omega) (by omega) D2.l
      simp only [tp, kn, sts_one, Int.cast_ofNat_Int] at e2 e3
      refine ⟨.ifs (.nm a) p p2, v3, ws2, ps2, ?_, ⟨by simp [St.ok], D2.ok, D3.ok⟩, ?_, ?_, D3.l, ?_, ?_, ⟨by simp [St.deep], D2.small, D3.small⟩, fun h d hd => ⟨D2.straight h d hd, D3.straight h d hd⟩⟩
      · have h0 : (sts (a :: N))[0] = .str a := rfl
        simp [f__law_turned_body, isGone_eq, tp, kn, e1, hq, stepIx, keyIx, e2, e3, h0, Tp.i, St.i]
      · obtain ⟨W1, f1, u1⟩ := D2.w
        obtain ⟨W2, f2, u2⟩ := D3.w
        exact ⟨W2 ++ W1, by rw [f1, f2]; simp, by simp only [Tp.words, List.reverse_append]; exact u1.append u2⟩
      · obtain ⟨W1, f1, u1⟩ := D2.j
        obtain ⟨W2, f2, u2⟩ := D3.j
        exact ⟨W2 ++ W1, by rw [f1, f2]; simp, by simp only [Tp.posts, List.reverse_append]; exact u1.append u2⟩
      · have := D2.size; have := D3.size; simp only [Tp.size]; omega
      · have := D2.deep; have := D3.deep; simp only [Tp.deep]; omega
    · obtain ⟨p, v', ws', ps', e, D⟩ := plain v1
      simp only [tp, kn] at e
      refine ⟨p, v', ws', ps', ?_, D⟩
      simp [f__law_turned_body, isGone_eq, tp, kn, e1, hq, stepIx, keyIx, e]
end

/-- a turned book -/
abbrev Te := Str × List Str × Tp
abbrev Tb := List Te
def teI (e : Te) : I := .tup [.str e.1, .tup (sts e.2.1), e.2.2.i]
def tbI (b : Tb) : I := .tup (b.map teI)
def hdOf (b : Tb) : List (Str × Nat) := b.map fun e => (e.1, e.2.1.length)
structure TeOk (st : Bool) (hd : List (Str × Nat)) (e : Te) : Prop where
  names : e.2.1.length ≤ 4
  fine : fine (e.2.1 ++ e.2.2.words)
  posts : Wn.fine e.2.2.posts
  ok : e.2.2.ok (fun f => hd.lookup f) e.2.1 ["home"]
  size : e.2.2.size ≤ 13
  deep : e.2.2.deep ≤ 8
  small : e.2.2.small 1
  straight : st = true → e.2.2.straight "home"
structure TbOk (st : Bool) (b : Tb) : Prop where
  l1 : 1 ≤ b.length
  l6 : b.length ≤ 6
  fine : fine (b.map (·.1))
  each : ∀ e ∈ b, TeOk st (hdOf b) e

theorem fine.sub {a b : List Str} (h : fine b) (s : a.Sublist b) : fine a := ⟨h.1.sublist s, fun x hx => h.2 x (s.subset hx)⟩
theorem fine.perm {a b : List Str} (h : fine a) (s : a.Perm b) : fine b := ⟨s.nodup_iff.1 h.1, fun x hx => h.2 x (s.mem_iff.2 hx)⟩
/-- what an errand is drawn as is fine -/
theorem teOk_of {hd : List (Str × Nat)} {st : Bool} {ws ps ws' ps' : List Str} {room0 : Nat} {p : Tp} {m : Nat} {f : Str} (hf : fine ws) (hp : fine ps) (hm : m ≤ 4) (hw : ws.length = 16) (hr : room0 ≤ 9) (D : Drawn hd st (ws.take m) ["home"] (ws.drop m) ps ws' ps' (room0 + 4) 8 p) : TeOk st hd (f, ws.take m, p) := by
  refine ⟨by simp; omega, ?_, ?_, D.ok, by have := D.size; show p.size ≤ 13; omega, D.deep, D.small, fun h => D.straight h "home" rfl⟩
  · obtain ⟨W, e, s⟩ := D.w
    have h1 : fine (ws.take m ++ W.reverse) := by
      have h2 : fine (ws.take m ++ W) := by
        refine hf.sub ?_
        conv => rhs; rw [← List.take_append_drop m ws, e]
        exact List.Sublist.append_left (List.sublist_append_right ws' W) _
      exact h2.perm (List.Perm.append_left _ (List.reverse_perm W).symm)
    exact h1.sub (List.Sublist.append_left s _)
  · obtain ⟨J, e, s⟩ := D.j
    have h1 : fine J := hp.sub (by rw [e]; exact List.sublist_append_right _ _)
    exact (h1.perm (List.reverse_perm J).symm).sub s

theorem cut_to {α : Type} (xs : List α) (m : Nat) : cut xs none (some (m : Int)) = xs.take m := by
  have h : ¬ ((m : Int) < 0) := by omega
  simp only [cut, cutIx, if_neg h, Int.toNat_natCast, List.drop_zero, Nat.sub_zero]
  by_cases hm : m ≤ xs.length
  · rw [Nat.min_eq_left hm]
  · rw [Nat.min_eq_right (by omega), List.take_of_length_le (Nat.le_refl _), List.take_of_length_le (by omega)]
theorem cut_from {α : Type} (xs : List α) (m : Nat) : cut xs (some (m : Int)) none = xs.drop m := by
  have h : ¬ ((m : Int) < 0) := by omega
  simp only [cut, cutIx, if_neg h, Int.toNat_natCast]
  by_cases hm : m ≤ xs.length
  · rw [Nat.min_eq_left hm, List.take_of_length_le (by simp)]
  · rw [Nat.min_eq_right (by omega)]
    simp [List.drop_eq_nil_of_le (show xs.length ≤ m by omega)]
theorem sts_take (xs : List Str) (m : Nat) : (sts xs).take m = sts (xs.take m) := by simp [sts]
theorem sts_drop (xs : List Str) (m : Nat) : (sts xs).drop m = sts (xs.drop m) := by simp [sts]
theorem hdk_snoc (hd : List (Str × Nat)) (f : Str) (n : Nat) : hdk (hd ++ [(f, n)]) = hdk hd ++ [.str f] := by simp [hdk]
theorem hdv_snoc (hd : List (Str × Nat)) (f : Str) (n : Nat) : hdv (hd ++ [(f, n)]) = hdv hd ++ [.int (n : Int)] := by simp [hdv]
theorem keyIx_hdk {f : Str} {hd : List (Str × Nat)} (h : f ∉ hd.map (·.1)) : keyIx (.str f) (hdk hd) = none := by
  rw [keyIx_none]
  simp only [hdk, List.mem_map, I.str.injEq]
  rintro ⟨p, hp, rfl⟩
  exact h (List.mem_map.2 ⟨p, hp, rfl⟩)
theorem hd_ix {hd : List (Str × Nat)} {f : Str} {n : Nat} (h : hd.lookup f = some n) : ∃ j, keyIx (.str f) (hdk hd) = some j ∧ (hdv hd)[j]? = some (.int (n : Int)) := by
  have := hd_look f hd
  rw [h] at this
  cases hj : keyIx (.str f) (hdk hd) with
  | none => rw [hj] at this; cases this
  | some j => rw [hj] at this; exact ⟨j, rfl, this⟩
theorem pick6 {q : Nat} {a b c d e f : Nat} (h : q < 6) : ∃ m : Nat, [I.int (a : Int), I.int (b : Int), I.int (c : Int), I.int (d : Int), I.int (e : Int), I.int (f : Int)][q]? = some (.int (m : Int)) ∧ (m = a ∨ m = b ∨ m = c ∨ m = d ∨ m = e ∨ m = f) := by
  have : q = 0 ∨ q = 1 ∨ q = 2 ∨ q = 3 ∨ q = 4 ∨ q = 5 := by omega
  rcases this with rfl | rfl | rfl | rfl | rfl | rfl
  · exact ⟨a, rfl, by simp⟩
  · exact ⟨b, rfl, by simp⟩
  · exact ⟨c, rfl, by simp⟩
  · exact ⟨d, rfl, by simp⟩
  · exact ⟨e, rfl, by simp⟩
  · exact ⟨f, rfl, by simp⟩
theorem pick4 {q : Nat} {a b c d : Nat} (h : q < 4) : ∃ m : Nat, [I.int (a : Int), I.int (b : Int), I.int (c : Int), I.int (d : Int)][q]? = some (.int (m : Int)) ∧ (m = a ∨ m = b ∨ m = c ∨ m = d) := by
  have : q = 0 ∨ q = 1 ∨ q = 2 ∨ q = 3 := by omega
  rcases this with rfl | rfl | rfl | rfl
  · exact ⟨a, rfl, by simp⟩
  · exact ⟨b, rfl, by simp⟩
  · exact ⟨c, rfl, by simp⟩
  · exact ⟨d, rfl, by simp⟩
theorem lookup_zipMem : ∀ {hd : List (Str × Nat)} {f : Str}, f ∈ hd.map (·.1) → ∃ n, hd.lookup f = some n ∧ (f, n) ∈ hd
  | (g, m) :: hd, f, h => by
    by_cases e : f = g
    · subst e; exact ⟨m, by simp [List.lookup], by simp⟩
    · have e2 : (f == g) = false := by rw [beq_eq_false_iff_ne]; exact e
      obtain ⟨n, h1, h2⟩ := lookup_zipMem (hd := hd) (f := f) (by simpa [e] using h)
      exact ⟨n, by simp [List.lookup, e2, h1], by simp [h2]⟩
section
variable {wf k : Nat}
theorem tbook (hk : 18 ≤ k) (ns : List Int) (start : Nat) (st : Bool) : ∃ b : Tb, (vctx VT wf k).call "_law_turned_book" [.im (.fl ns), .im (.int start), .im (.bl st)] = .ok (.im (tbI b)) [.gone, .gone, .gone] ∧ TbOk st b := by
  obtain ⟨k, rfl⟩ := Nat.exists_eq_add_of_le' hk
  rw [vc__law_turned_book _ rfl]
  have hbig := bigN
  obtain ⟨v0, e0⟩ := tape (wf := wf) (k := k + 17) (by omega) ns start
  obtain ⟨q1, v1, e1, l1⟩ := digitE (wf := wf) (k := k + 17) (by omega) v0 (m := 6) (by decide) (by decide)
  obtain ⟨many, g1, hmany⟩ := pick6 (a := 1) (b := 2) (c := 2) (d := 3) (e := 4) (f := 6) (q := q1) (by omega)
  have hx1 : ixOf 6 (q1 : Int) = some q1 := ixOf_nat (by omega)
  have hm6 : 1 ≤ many ∧ many ≤ 6 := by omega
  obtain ⟨es, v2, e2, les, fes⟩ := words (wf := wf) (k := k + 17) (by omega) v1 (n := many) (by omega)
  -- the heads
  have hL1 := vforGo_inv (step := stepV (vCtx VT wf (k + 17) []) (.nm 6) b1__law_turned_book) (fun xs E => ∃ (hd : List (Str × Nat)) (rest : List Str) (v : Int), xs = sts rest ∧ es = hd.map (·.1) ++ rest ∧ (∀ p ∈ hd, p.2 ≤ 4) ∧ E = [.im (.fl ns), .im (.int start), .im (.bl st), lstV [.int v], .im (.lst (sts es)), dicV (hdk hd, hdv hd), .gone, .gone, .gone, .gone, .gone, .gone, .gone, .gone]) (by
    rintro x xs E ⟨hd, rest, v, hx, hes, h4, rfl⟩
    cases rest with
    | nil => simp [sts] at hx
    | cons f rest =>
      obtain ⟨rfl, rfl⟩ := List.cons.inj hx
      obtain ⟨q, v3, e3, l3⟩ := digitE (wf := wf) (k := k + 17) (by omega) v (m := 6) (by decide) (by decide)
      obtain ⟨m, g3, hm⟩ := pick6 (a := 1) (b := 2) (c := 1) (d := 0) (e := 3) (f := 4) (q := q) (by omega)
      have hx3 : ixOf 6 (q : Int) = some q := ixOf_nat (by omega)
      have hnf : f ∉ hd.map (·.1) := by
        have := fes.1
        rw [hes] at this
        have h := (List.nodup_append.1 this).2.2
        intro hf
        exact h f hf f (List.mem_cons_self ..) rfl
      have hlen : (hdk hd).length < big := by
        have : hd.length ≤ es.length := by rw [hes]; simp
        simp [hdk]; omega
      have hset : vSet (dicV (hdk hd, hdv hd)) (.str f) (.im (.int m)) = some (dicV (hdk (hd ++ [(f, m)]), hdv (hd ++ [(f, m)]))) := by
        simp [vSet, dicV, hlen, putV, keyIx_hdk hnf, hdk_snoc, hdv_snoc]
      simp only [tp] at e3
      refine ⟨[.im (.fl ns), .im (.int start), .im (.bl st), lstV [.int v3], .im (.lst (sts es)), dicV (hdk (hd ++ [(f, m)]), hdv (hd ++ [(f, m)])), .gone, .gone, .gone, .gone, .gone, .gone, .gone, .gone], ?_, hd ++ [(f, m)], rest, v3, rfl, by rw [hes]; simp, ?_, rfl⟩
      · simp at g3
        simp [stepV, b1__law_turned_book, vSetTg, isGone_eq, e3, hx3, g3, hset]
      · intro p hp
        rcases List.mem_append.1 hp with h | h
        · exact h4 p h
        · simp at h; subst h; show m ≤ 4; omega)
  obtain ⟨E1, f1, hd, rest, v3, hrest, hes, h4, rfl⟩ := hL1 (sts es) [.im (.fl ns), .im (.int start), .im (.bl st), lstV [.int v2], .im (.lst (sts es)), dicV (hdk [], hdv []), .gone, .gone, .gone, .gone, .gone, .gone, .gone, .gone] ⟨[], es, v2, rfl, by simp, by simp, rfl⟩
  have hr0 : rest = [] := by cases rest with
    | nil => rfl
    | cons a r => simp [sts] at hrest
  subst hr0
  simp only [List.append_nil] at hes
  obtain ⟨q4, v4, e4, l4⟩ := digitE (wf := wf) (k := k + 17) (by omega) v3 (m := 4) (by decide) (by decide)
  obtain ⟨room, g4, hroom⟩ := pick4 (a := 3) (b := 5) (c := 7) (d := 9) (q := q4) (by omega)
  have hx4 : ixOf 4 (q4 : Int) = some q4 := ixOf_nat (by omega)
  have K : Kn es hd := ⟨by omega, by omega, fun f hf => by
    obtain ⟨n, h1, h2⟩ := lookup_zipMem (hd := hd) (f := f) (by rw [← hes]; exact hf)
    exact ⟨n, h1, h4 _ h2⟩⟩
  have hnd : (hd.map (·.1)).Nodup := by rw [← hes]; exact fes.1
  -- the errands
  have hL2 := vforGo_inv (step := stepV (vCtx VT wf (k + 17) []) (.nm 9) b2__law_turned_book) (fun xs E => ∃ (b : Tb) (v : Int) (hv : V), (∃ c : Nat, xs = (List.range' c (es.length - c)).map (fun (k : Nat) => I.int (k : Int)) ∧ c ≤ es.length ∧ hdOf b = hd.take c) ∧ (∀ e ∈ b, TeOk st hd e) ∧ (hv = dicV (hdk hd, hdv hd) ∨ hv = .im (.dic (hdk hd) (hdv hd))) ∧ E = [.im (.fl ns), .im (.int start), .im (.bl st), lstV [.int v], .im (.lst (sts es)), hv, .gone, .im (.int room), lstV (b.map teI), .gone, .gone, .gone, .gone, .gone]) (by
    rintro x xs E ⟨b, v, hv, ⟨c, hxs, hc, hb⟩, hok, hhv, rfl⟩
    obtain ⟨m', hm'⟩ : ∃ m', es.length - c = m' + 1 := by
      cases h : es.length - c with
      | zero => rw [h] at hxs; simp at hxs
      | succ m' => exact ⟨m', rfl⟩
    rw [hm', List.range'_succ, List.map_cons] at hxs
    obtain ⟨rfl, rfl⟩ := List.cons.inj hxs
    have hin : m' = es.length - (c + 1) := by omega
    have hcl : c < es.length := by omega
    obtain ⟨v5, e5⟩ := tape (wf := wf) (k := k + 17) (by omega) ns (start + 1 + c)
    obtain ⟨ws, v6, e6, lws, fws⟩ := words (wf := wf) (k := k + 17) (by omega) v5 (n := 16) (by omega)
    obtain ⟨ps, v7, e7, lps, fps⟩ := words (wf := wf) (k := k + 17) (by omega) v6 (n := 16) (by omega)
    obtain ⟨m, hlk, hm4⟩ := K.h1 es[c] (List.getElem_mem hcl)
    obtain ⟨j, hj1, hj2⟩ := hd_ix hlk
    have hxc : ixOf es.length (c : Int) = some c := ixOf_nat hcl
    have hgc := sts_get hcl
    obtain ⟨p, v8, ws', ps', e8, D⟩ := tbody (wf := wf) (k := k + 17) (st := st) (room0 := room) (by omega) K v7 (ws.drop m) ps (ws.take m) (by simp; omega) (by omega) (by omega) (by simp; omega)
    have hte := teOk_of (f := es[c]) fws fps hm4 lws (by omega) D
    have hct := cut_to (sts ws) m
    have hcf := cut_from (sts ws) m
    have hml : min m ws.length = m := by omega
    have hbl : b.length < big := by
      have : (hdOf b).length = (hd.take c).length := by rw [hb]
      simp [hdOf] at this
      have : es.length = hd.length := by rw [hes]; simp
      omega
    have hbl2 := hbl
    rw [hbig] at hbl2
    have hcst : ((start + 1 + c : Nat) : Int) = (start : Int) + 1 + (c : Int) := by omega
    rw [hcst] at e5
    simp only [tp, kn, Int.cast_ofNat_Int] at e5 e6 e7 e8
    refine ⟨_, ?_, b ++ [(es[c], ws.take m, p)], v, .im (.dic (hdk hd) (hdv hd)), ⟨c + 1, by rw [hin], by omega, ?_⟩, ?_, .inr rfl, rfl⟩
    · rcases hhv with rfl | rfl
      · simp [stepV, b2__law_turned_book, vSetTg, isGone_eq, e5, e6, hxc, hgc, hj1, hj2, hct, hcf, sts_take, sts_drop, hml, vPairs, putV, keyIx, vSet, hbig, e7, e8, teI, hbl2]
      · simp [stepV, b2__law_turned_book, vSetTg, isGone_eq, e5, e6, hxc, hgc, hj1, hj2, hct, hcf, sts_take, sts_drop, hml, vPairs, putV, keyIx, vSet, hbig, e7, e8, teI, hbl2]
    · have hcd : c < hd.length := by
        have : es.length = hd.length := by rw [hes]; simp
        omega
      have h1 : hd[c] = (es[c], m) := by
        have h2 : es[c] = hd[c].1 := by simp [hes]
        have h3 : hd.lookup hd[c].1 = some hd[c].2 := by
          clear hlk hj1 hj2 e8 D hte hct hcf hml hbl
          have hmem : hd[c] ∈ hd := List.getElem_mem hcd
          generalize hd[c] = pr at hmem h2
          clear h2 hcd hgc hxc e7 e6 e5 hb hok hhv hL1 f1 K h4 hes
          induction hd with
          | nil => cases hmem
          | cons a hd ih =>
            rcases List.mem_cons.1 hmem with rfl | hmem
            · simp [List.lookup]
            · simp only [List.map_cons, List.nodup_cons] at hnd
              have : (pr.1 == a.1) = false := by
                rw [beq_eq_false_iff_ne]; intro z
                exact hnd.1 (by rw [← z]; exact List.mem_map.2 ⟨pr, hmem, rfl⟩)
              simp only [List.lookup, this]
              exact ih hnd.2 hmem
        rw [h2] at hlk
        rw [h3] at hlk
        have : hd[c].2 = m := by simpa using hlk
        rw [h2, ← this]
      have hmw : (ws.take m).length = m := by simp; omega
      rw [List.take_succ_eq_append_getElem hcd, h1]
      simp only [hdOf, List.map_append, List.map_cons, List.map_nil] at hb ⊢
      rw [hb, hmw]
    · intro e he
      rcases List.mem_append.1 he with h | h
      · exact hok e h
      · simp at h; subst h; exact hte)
  obtain ⟨E2, f2, b, v9, hv, ⟨c, hc, hcl, hb⟩, hok, _, rfl⟩ := hL2 ((List.range es.length).map fun (k : Nat) => I.int (k : Int)) [.im (.fl ns), .im (.int start), .im (.bl st), lstV [.int v4], .im (.lst (sts es)), dicV (hdk hd, hdv hd), .gone, .im (.int room), lstV [], .gone, .gone, .gone, .gone, .gone] ⟨[], v4, _, ⟨0, by rw [List.range_eq_range']; rfl, by omega, by simp [hdOf]⟩, by simp, .inl rfl, rfl⟩
  have hcm : c = es.length := by
    cases h : es.length - c with
    | zero => omega
    | succ m' => rw [h, List.range'_succ] at hc; simp at hc
  have hel : es.length = hd.length := by rw [hes]; simp
  have hb2 : hdOf b = hd := by rw [hb, hcm, hel, List.take_length]
  have hbl : b.length = many := by
    have : (hdOf b).length = hd.length := by rw [hb2]
    simp [hdOf] at this; omega
  refine ⟨b, ?_, by omega, by omega, ?_, by rw [hb2]; exact hok⟩
  · have hbn : inBound (es.length : Int) = true := inBound_nat (by omega)
    simp only [tp] at e0 e1 e2 e4
    simp at g1 g4
    have hd0 : dicV (hdk [], hdv []) = .obj (.dic []) [] := rfl
    rw [hd0] at f1
    simp [f__law_turned_book, isGone_eq, e0, e1, hx1, g1, e2, vPairs, f1, e4, hx4, g4, hbn, f2, tbI]
  · have : b.map (·.1) = es := by
      rw [hes, ← hb2]; simp [hdOf]
    rw [this]; exact fes
end
end Wn
end
section
/-! Tb: plain things of turned parts; equality of what they are told as. -/
namespace Wn
open PySem
def St.beq : St → St → Bool
  | .num a, .num b => a == b
  | .nm a, .nm b => a == b
  | .bin l a b, .bin m c d => l == m && a.beq c && b.beq d
  | _, _ => false
theorem St.beq_iff : ∀ {a b : St}, a.beq b = true ↔ a = b
  | .num a, .num b => by simp [St.beq]
  | .nm a, .nm b => by simp [St.beq]
  | .bin l a b, .bin m c d => by simp [St.beq, St.beq_iff (a := a) (b := c), St.beq_iff (a := b) (b := d), and_assoc]
  | .num _, .nm _ => by simp [St.beq]
  | .num _, .bin _ _ _ => by simp [St.beq]
  | .nm _, .num _ => by simp [St.beq]
  | .nm _, .bin _ _ _ => by simp [St.beq]
  | .bin _ _ _, .num _ => by simp [St.beq]
  | .bin _ _ _, .nm _ => by simp [St.beq]
instance : DecidableEq St := fun a b => decidable_of_iff _ St.beq_iff
def Tp.inner : Tp → List Tp
  | .bnd _ _ _ p => [p]
  | .ifs _ p q => [p, q]
  | .post _ _ p q => [p, q]
  | _ => []
def Tp.simples : Tp → List St
  | .give _ s => [s]
  | .ask _ ss _ => ss
  | .bnd _ _ s _ => [s]
  | .ifs s _ _ => [s]
  | .post _ _ _ _ => []
/-- the turned parts within, by their numbers -/
def Tp.kids : Tp → List (Nat × Tp)
  | .bnd _ _ _ p => [(1, p)]
  | .ifs _ p q => [(1, p), (2, q)]
  | .post _ _ p q => [(0, p), (1, q)]
  | _ => []
/-- gives and asks go to -/
def Tp.hands : Tp → List Str
  | .give j _ => [j]
  | .ask _ _ j => [j]
  | .bnd _ _ _ p => p.hands
  | .ifs _ p q => p.hands ++ q.hands
  | .post _ _ p q => p.hands ++ q.hands
theorem Tp.hands_le : ∀ p : Tp, p.hands.length ≤ p.size
  | .give _ _ => by simp [Tp.hands, Tp.size]
  | .ask _ _ _ => by simp [Tp.hands, Tp.size]
  | .bnd _ _ _ p => by have := p.hands_le; simp [Tp.hands, Tp.size]; omega
  | .ifs _ p q => by have := p.hands_le; have := q.hands_le; simp [Tp.hands, Tp.size]; omega
  | .post _ _ p q => by have := p.hands_le; have := q.hands_le; simp [Tp.hands, Tp.size]; omega
/-- all turned parts with their places -/
def Tp.all : Tp → List Nat → List (List Nat × Tp)
  | .give j s, ns => [(ns, .give j s)]
  | .ask f ss j, ns => [(ns, .ask f ss j)]
  | .bnd t x s p, ns => (ns, .bnd t x s p) :: p.all (ns ++ [1])
  | .ifs s p q, ns => (ns, .ifs s p q) :: (p.all (ns ++ [1]) ++ q.all (ns ++ [2]))
  | .post j x p q, ns => (ns, .post j x p q) :: (p.all (ns ++ [0]) ++ q.all (ns ++ [1]))
theorem Tp.all_len : ∀ (p : Tp) (ns : List Nat), (p.all ns).length = p.size
  | .give _ _, ns => by simp [Tp.all, Tp.size]
  | .ask _ _ _, ns => by simp [Tp.all, Tp.size]
  | .bnd _ _ _ p, ns => by simp [Tp.all, Tp.size, p.all_len]
  | .ifs _ p q, ns => by simp [Tp.all, Tp.size, p.all_len, q.all_len]
  | .post _ _ p q, ns => by simp [Tp.all, Tp.size, p.all_len, q.all_len]
theorem Tp.all_deep : ∀ (p : Tp) (ns : List Nat), ∀ x ∈ p.all ns, x.1.length ≤ ns.length + p.deep ∧ x.2.deep ≤ p.deep
  | .give _ _, ns, x, h => by simp [Tp.all] at h; subst h; simp [Tp.deep]
  | .ask _ _ _, ns, x, h => by simp [Tp.all] at h; subst h; simp [Tp.deep]
  | .bnd _ _ _ p, ns, x, h => by
    simp only [Tp.all, List.mem_cons] at h
    rcases h with h | h
    · subst h; simp
    · have := p.all_deep _ x h; simp [Tp.deep] at this ⊢; omega
  | .ifs _ p q, ns, x, h => by
    simp only [Tp.all, List.mem_cons, List.mem_append] at h
    rcases h with h | h | h
    · subst h; simp
    · have := p.all_deep _ x h; simp [Tp.deep] at this ⊢; omega
    · have := q.all_deep _ x h; simp [Tp.deep] at this ⊢; omega
  | .post _ _ p q, ns, x, h => by
    simp only [Tp.all, List.mem_cons, List.mem_append] at h
    rcases h with h | h | h
    · subst h; simp
    · have := p.all_deep _ x h; simp [Tp.deep] at this ⊢; omega
    · have := q.all_deep _ x h; simp [Tp.deep] at this ⊢; omega
/-- a place, behind something -/
def plcI (pre : List I) (ns : List Nat) : I := .tup (pre ++ nats ns)
def allI (pre : List I) (x : List Nat × Tp) : I := .tup [plcI pre x.1, x.2.i]
@[simp] theorem nats_append (a b : List Nat) : nats (a ++ b) = nats a ++ nats b := by simp [nats]
@[simp] theorem nats_one (a : Nat) : nats [a] = [.int (a : Int)] := rfl
@[simp] theorem nats_nil : nats [] = [] := rfl
/-! equality -/
def St.dv : St → DV
  | .num n => .tup [.str "number", .int n]
  | .nm x => .tup [.str "name", .str x]
  | .bin l a b => .tup [.str (opw l), a.dv, b.dv]
theorem St.i_dv : ∀ s : St, s.i.dv = some s.dv
  | .num n => rfl
  | .nm x => rfl
  | .bin l a b => by simp [St.i, I.dv, I.dvs, St.i_dv a, St.i_dv b, St.dv]
theorem St.i_lists : ∀ s : St, s.i.lists = 0
  | .num n => rfl
  | .nm x => rfl
  | .bin l a b => by simp [St.i, I.lists, I.listss, St.i_lists a, St.i_lists b]
theorem St.dv_inj : ∀ {s t : St}, s.dv = t.dv ↔ s = t
  | .num _, .num _ => by simp [St.dv]; omega
  | .nm _, .nm _ => by simp [St.dv]
  | .bin l a b, .bin m c d => by
    simp only [St.dv, DV.tup.injEq, List.cons.injEq, DV.str.injEq, St.dv_inj (s := a) (t := c), St.dv_inj (s := b) (t := d), St.bin.injEq, and_true]
    have : opw l = opw m ↔ l = m := by cases l <;> cases m <;> simp [opw]
    rw [this]
  | .num _, .nm _ => by simp [St.dv]
  | .num _, .bin l _ _ => by cases l <;> simp [St.dv]
  | .nm _, .num _ => by simp [St.dv]
  | .nm _, .bin l _ _ => by cases l <;> simp [St.dv]
  | .bin l _ _, .num _ => by cases l <;> simp [St.dv]
  | .bin l _ _, .nm _ => by cases l <;> simp [St.dv]
theorem iEq_of {a b : I} {d e : DV} (ha : a.dv = some d) (hb : b.dv = some e) (la : a.lists ≤ 3) (lb : b.lists ≤ 3) (h : min d.deep e.deep ≤ 190) : iEq a b = some (decide (d = e)) := by
  simp only [iEq, ha, hb]
  rw [if_pos ⟨la, lb, h⟩]
@[simp] theorem iEq_name (s : St) (x : Str) : iEq s.i (.tup [.str "name", .str x]) = some (decide (s = .nm x)) := by
  rw [iEq_of (St.i_dv s) (e := (St.nm x).dv) rfl (by rw [St.i_lists]; omega) (by simp [I.lists, I.listss]) (by simp [St.dv, DV.deep, DV.deepL]; omega)]
  simp only [St.dv_inj]
theorem sts_in (x : Str) : ∀ H : List Str, iAnyEq (.str x) (sts H) = some (decide (x ∈ H))
  | [] => by simp [sts, iAnyEq]
  | h :: H => by
    have ih := sts_in x H
    simp only [sts, List.map_cons, iAnyEq, iEq_str] at ih ⊢
    rw [ih]
    simp only [List.mem_cons]
    congr 1
    rw [Bool.eq_iff_iff]
    simp only [Bool.or_eq_true, decide_eq_true_eq]
    constructor
    · rintro (h | h)
      · exact .inl h.symm
      · exact .inr h
    · rintro (h | h)
      · exact .inl h.symm
      · exact .inr h
@[simp] theorem iIn_sts (x : Str) (H : List Str) : iIn (.str x) (.lst (sts H)) = some (decide (x ∈ H)) := sts_in x H
@[simp] theorem iIn_stsT (x : Str) (H : List Str) : iIn (.str x) (.tup (sts H)) = some (decide (x ∈ H)) := sts_in x H
/-- lists of plain things -/
theorem dvs_map {α : Type} (f : α → I) (g : α → DV) (h : ∀ a, (f a).dv = some (g a)) : ∀ l : List α, I.dvs (l.map f) = some (l.map g)
  | [] => by simp [I.dvs]
  | a :: l => by simp [I.dvs, h a, dvs_map f g h l]
theorem lists_map {α : Type} (f : α → I) {n : Nat} (h : ∀ a, (f a).lists ≤ n) : ∀ l : List α, I.listss (l.map f) ≤ n
  | [] => by simp [I.listss]
  | a :: l => by have := lists_map f h l; have := h a; simp only [List.map_cons, I.listss]; omega
theorem deepL_map {α : Type} (g : α → DV) {n : Nat} {l : List α} (h : ∀ a ∈ l, (g a).deep ≤ n) : DV.deepL (l.map g) ≤ n := by
  induction l with
  | nil => simp [DV.deepL]
  | cons a l ih =>
    have := ih fun x hx => h x (List.mem_cons_of_mem _ hx)
    have := h a (List.mem_cons_self ..)
    simp [DV.deepL]; omega
theorem dvs_app : ∀ (a b : List I) {x y : List DV}, I.dvs a = some x → I.dvs b = some y → I.dvs (a ++ b) = some (x ++ y)
  | [], b, x, y, h1, h2 => by simp [I.dvs] at h1; subst h1; simpa using h2
  | i :: a, b, x, y, h1, h2 => by
    simp only [I.dvs] at h1
    cases hi : i.dv with
    | none => rw [hi] at h1; cases h1
    | some d =>
      cases ha : I.dvs a with
      | none => rw [hi, ha] at h1; cases h1
      | some ds =>
        rw [hi, ha] at h1; cases h1
        simp only [List.cons_append, I.dvs, hi, dvs_app a b ha h2, Option.map_some]
theorem flat_le {α β : Type} (g : α → List β) (n : Nat) : ∀ (l : List α), (∀ a ∈ l, (g a).length ≤ n) → (l.flatMap g).length ≤ n * l.length
  | [], _ => by simp
  | a :: l, h => by
    have := flat_le g n l fun x hx => h x (List.mem_cons_of_mem _ hx)
    have := h a (List.mem_cons_self ..)
    simp only [List.flatMap_cons, List.length_append, List.length_cons, Nat.mul_add, Nat.mul_one]; omega
end Wn
end
section
/-! T0: cuts of short rows. -/
namespace Wn
open PySem
section
variable {wf k : Nat}
@[simp] theorem cut_cons1 {α : Type} (a : α) (xs : List α) : cut (a :: xs) (some 1) none = xs := cut_from (a :: xs) 1
@[simp] theorem cut_cons2 {α : Type} (a b : α) (xs : List α) : cut (a :: b :: xs) (some 2) none = xs := cut_from (a :: b :: xs) 2
@[simp] theorem cut_cons3 {α : Type} (a b c : α) (xs : List α) : cut (a :: b :: c :: xs) (some 3) none = xs := cut_from (a :: b :: c :: xs) 3
@[simp] theorem cut_to1 {α : Type} (a : α) (xs : List α) : cut (a :: xs) none (some 1) = [a] := cut_to (a :: xs) 1
@[simp] theorem cut_to2 {α : Type} (a b : α) (xs : List α) : cut (a :: b :: xs) none (some 2) = [a, b] := cut_to (a :: b :: xs) 2
@[simp] theorem cut_to3 {α : Type} (a b c : α) (xs : List α) : cut (a :: b :: c :: xs) none (some 3) = [a, b, c] := cut_to (a :: b :: c :: xs) 3
@[simp] theorem cut_cons4 {α : Type} (a b c d : α) (xs : List α) : cut (a :: b :: c :: d :: xs) (some 4) none = xs := cut_from (a :: b :: c :: d :: xs) 4
@[simp] theorem cut_to4 {α : Type} (a b c d : α) (xs : List α) : cut (a :: b :: c :: d :: xs) none (some 4) = [a, b, c, d] := cut_to (a :: b :: c :: d :: xs) 4
end
end Wn
end
section
/-! T1: the parts right in a turned part. Needs inner_turned. -/
namespace Wn
open PySem
section
variable {wf k : Nat}
theorem inner_turned (hk : 1 ≤ k) (p : Tp) : (vctx VT wf k).call "inner_turned" [.im p.i] = .ok (.im (.tup (p.inner.map Tp.i))) [.gone] := by
  obtain ⟨k, rfl⟩ := Nat.exists_eq_add_of_le' hk
  rw [vc_inner_turned _ rfl]
  cases p with
  | bnd t x s p => cases t <;> simp [f_inner_turned, Tp.i, Tp.inner]
  | _ => simp [f_inner_turned, Tp.i, Tp.inner]
end
end Wn
end
section
/-! Wd: dicts. -/
namespace Wn
open PySem
def vget {α : Type} (d : List I × List α) (k : I) : Option α := (keyIx k d.1).bind fun j => d.2[j]?
theorem dKey_lt {k : I} : ∀ {ks : List I} {j : Nat}, keyIx k ks = some j → j < ks.length ∧ ks[j]? = some k
  | [], j, h => by cases h
  | x :: ks, j, h => by
    simp only [keyIx] at h
    split at h
    · cases h; rename_i e; subst e; exact ⟨by simp, rfl⟩
    · cases hk : keyIx k ks with
      | none => rw [hk] at h; cases h
      | some i =>
        rw [hk] at h; cases h
        have := dKey_lt hk
        exact ⟨by simp; exact this.1, by simpa using this.2⟩
theorem dKey_app (k x : I) : ∀ ks : List I, keyIx k (ks ++ [x]) = match keyIx k ks with
    | some j => some j
    | none => if x = k then some ks.length else none
  | [] => by simp only [List.nil_append, keyIx]; split <;> simp_all
  | y :: ks => by
    simp only [List.cons_append, keyIx, dKey_app k x ks]
    by_cases h : y = k
    · simp [h]
    · simp only [if_neg h]
      cases keyIx k ks with
      | some j => rfl
      | none => by_cases e : x = k <;> simp [e]
theorem dKey_inj {k k' : I} {ks : List I} {j : Nat} (h : keyIx k ks = some j) (h' : keyIx k' ks = some j) : k = k' := by
  have h1 := (dKey_lt h).2
  have h2 := (dKey_lt h').2
  rw [h1] at h2; exact Option.some.inj h2
theorem vget_put {α : Type} {d : List I × List α} (h : d.1.length = d.2.length) (k k' : I) (v : α) : vget (putV k v d) k' = if k' = k then some v else vget d k' := by
  simp only [putV, vget]
  cases hk : keyIx k d.1 with
  | some j =>
    have hj := (dKey_lt hk).1
    by_cases e : k' = k
    · subst e; simp [hk, h ▸ hj]
    · rw [if_neg e]
      cases hk' : keyIx k' d.1 with
      | none => simp [hk']
      | some i =>
        have : j ≠ i := by rintro rfl; exact e (dKey_inj hk' hk)
        simp [hk', List.getElem?_set_ne this]
  | none =>
    simp only [dKey_app]
    by_cases e : k' = k
    · subst e; simp [hk, h]
    · have e' : ¬ k = k' := fun z => e z.symm
      rw [if_neg e]
      cases hk' : keyIx k' d.1 with
      | none => simp [hk', e']
      | some i =>
        have hi := (dKey_lt hk').1
        simp [hk', List.getElem?_append_left (h ▸ hi)]
theorem dPut_len {α : Type} {d : List I × List α} (h : d.1.length = d.2.length) (k : I) (v : α) : (putV k v d).1.length = (putV k v d).2.length := by
  simp only [putV]; split <;> simp [h]
theorem dPut_le {α : Type} (d : List I × List α) (k : I) (v : α) : (putV k v d).1.length ≤ d.1.length + 1 := by
  simp only [putV]; split <;> simp
theorem dPut_map (k v : I) (d : List I × List I) : putV k (V.im v) (d.1, d.2.map V.im) = ((putV k v d).1, (putV k v d).2.map V.im) := by
  simp only [putV]; split <;> simp [List.map_set]
@[simp] theorem vSet_dicV (d : List I × List I) (k v : I) (h1 : iKey k = true) (h2 : d.1.length < big) : vSet (dicV d) k (.im v) = some (dicV (putV k v d)) := by
  simp only [vSet, dicV, h1, h2, decide_true, Bool.and_self, if_true, dPut_map]
theorem iIdx_vget (d : List I × List I) (k : I) (h : iKey k = true) : iIdx (.dic d.1 d.2) k = vget d k := if_pos h
@[simp] theorem freeze_dicV' (d : List I × List I) : (dicV d).freeze = some (.dic d.1 d.2) := freeze_dicV d.1 d.2
@[simp] theorem flat_dicV' (d : List I × List I) : (dicV d).flat = some (.dic d.1 d.2) := flat_dicV d.1 d.2
@[simp] theorem rdK_dicV' (E : VE) (i : Nat) (js : List Nat) (d : List I × List I) : rdK E i js (some (dicV d)) = .ok (.im (.dic d.1 d.2)) (pokeE E i js (.im (.dic d.1 d.2))) := rdK_dicV E i js d.1 d.2
@[simp] theorem plI_dicV' (i : Nat) (js : List Nat) (k : I) (d : List I × List I) (h : iKey k = true) : plI i js k (some (dicV d)) = (keyIx k d.1).map fun j => (i, js ++ [j]) := plI_dicV i js k d.1 d.2 h
@[simp] theorem peek_dicV' (d : List I × List I) (j : Nat) : (dicV d).peek [j] = (d.2[j]?).map .im := peek_dicV d.1 d.2 j
theorem vforGo_ret {β : Type} {step : I → VE → R VFl} {E : VE} (enc : β → I) (bad : β → Bool) (rv : V) (Eb : β → VE) : ∀ es : List β, (∀ e ∈ es, step (enc e) E = if bad e = true then .ok (.rt rv) (Eb e) else .ok .nx E) → vforGo step (es.map enc) E = match es.find? bad with
    | some e => .ok (.rt rv) (Eb e)
    | none => .ok .nx E
  | [], _ => by simp
  | e :: es, h => by
    have h1 := h e (List.mem_cons_self ..)
    have ih := vforGo_ret enc bad rv Eb es fun x hx => h x (List.mem_cons_of_mem _ hx)
    cases hb : bad e with
    | true => simp [vforGo, h1, hb, R.bind, List.find?]
    | false => simp [vforGo, h1, hb, R.bind, List.find?, ih]
theorem vforGo_or {step : I → VE → R VFl} (P : List I → VE → Prop) (Q : V → VE → Prop) (hs : ∀ x xs E, P (x :: xs) E → (∃ E1, step x E = .ok .nx E1 ∧ P xs E1) ∨ (∃ v E1, step x E = .ok (.rt v) E1 ∧ Q v E1)) : ∀ xs E, P xs E → (∃ E', vforGo step xs E = .ok .nx E' ∧ P [] E') ∨ (∃ v E', vforGo step xs E = .ok (.rt v) E' ∧ Q v E')
  | [], E, h => .inl ⟨E, rfl, h⟩
  | x :: xs, E, h => by
    rcases hs x xs E h with ⟨E1, e, h1⟩ | ⟨v, E1, e, h1⟩
    · rcases vforGo_or P Q hs xs E1 h1 with ⟨E', e', h'⟩ | ⟨v, E', e', h'⟩
      · exact .inl ⟨E', by simp only [vforGo, e, R.bind, e'], h'⟩
      · exact .inr ⟨v, E', by simp only [vforGo, e, R.bind, e'], h'⟩
    · exact .inr ⟨v, E1, by simp only [vforGo, e, R.bind], h1⟩
theorem vforGo_foldE {α β : Type} {step : I → VE → R VFl} (enc : β → I) (mk : α → VE) (f : α → β → α) : ∀ (es : List β) (a : α), (∀ e ∈ es, ∀ a, step (enc e) (mk a) = .ok .nx (mk (f a e))) → vforGo step (es.map enc) (mk a) = .ok .nx (mk (es.foldl f a))
  | [], a, _ => rfl
  | e :: es, a, h => by
    simp only [List.map_cons, vforGo, h e (List.mem_cons_self ..) a, R.bind, List.foldl_cons]
    exact vforGo_foldE enc mk f es _ fun y hy => h y (List.mem_cons_of_mem _ hy)
theorem putV_ix {α : Type} {d : List I × List α} (h : d.1.length = d.2.length) (k : I) (v : α) : ∃ j, keyIx k (putV k v d).1 = some j ∧ (putV k v d).2[j]? = some v := by
  have e := vget_put h k k v
  rw [if_pos rfl] at e
  simp only [vget] at e
  cases hj : keyIx k (putV k v d).1 with
  | none => rw [hj] at e; cases e
  | some j => rw [hj] at e; exact ⟨j, rfl, e⟩
@[simp] theorem freezes_nil : V.freezes [] = some [] := by simp [V.freezes]
@[simp] theorem freezes_cons (x : I) (vs : List V) : V.freezes (.im x :: vs) = (V.freezes vs).map (x :: ·) := by
  simp only [V.freezes, V.freeze]
@[simp] theorem freeze_dic (ks : List I) (vs : List V) : (V.dic ks vs).freeze = (V.freezes vs).map (I.dic ks) := by
  rw [V.freeze]; rfl
@[simp] theorem sAdd_none' (x : I) : sAdd (some x) none = none := by cases x <;> rfl
@[simp] theorem sAdd_none (x : Option I) : sAdd none x = none := id rfl
@[simp] theorem sSub_none' (x : I) : sSub (some x) none = none := by cases x <;> rfl
@[simp] theorem sSub_none (x : Option I) : sSub none x = none := id rfl
@[simp] theorem sNeg_none : sNeg none = none := id rfl
@[simp] theorem iEq_int_str (a : Int) (b : Str) : iEq (.int a) (.str b) = some false := by simp [iEq, I.dv, I.lists, DV.deep]
@[simp] theorem iEq_str_int (a : Int) (b : Str) : iEq (.str b) (.int a) = some false := by simp [iEq, I.dv, I.lists, DV.deep]
@[simp] theorem iEq_bl (a b : Bool) : iEq (.bl a) (.bl b) = some (decide (a = b)) := by cases a <;> cases b <;> simp [iEq, I.dv, I.lists, DV.deep]
end Wn
end
section
/-! Wh: while, dicts of rows, words by numbers. -/
namespace Wn
open PySem
theorem whStep_inv {c : VC} {t : Ex} {b : Ss} (P : Nat → VE → Prop) (hs : ∀ n E, P n E → vT c t E = .ok false E ∨ (∃ m E1, n = m + 1 ∧ vT c t E = .ok true E ∧ vSs c b E = .ok .nx E1 ∧ P m E1)) :
    ∀ n E w, n < w → P n E → ∃ E' m, whStep c t b w E = .ok .nx E' ∧ P m E' ∧ vT c t E' = .ok false E'
  | n, E, 0, h, _ => absurd h (Nat.not_lt_zero _)
  | n, E, w + 1, h, hP => by
    rcases hs n E hP with e | ⟨m, E1, rfl, e, e1, h1⟩
    · exact ⟨E, n, by simp only [whStep, vwhileGo, e, R.bind]; rfl, hP, e⟩
    · obtain ⟨E', m', a, b', c'⟩ := whStep_inv P hs m E1 w (by omega) h1
      refine ⟨E', m', ?_, b', c'⟩
      simp only [whStep] at a
      simp only [whStep, vwhileGo, e, R.bind, if_true, e1, a]
theorem keyIx_sts (x : Str) : ∀ ws : List Str, x ∈ ws → keyIx (.str x) (sts ws) = some (ws.idxOf x)
  | w :: ws, h => by
    simp only [sts, List.map_cons, keyIx, I.str.injEq]
    by_cases e : w = x
    · subst e; simp
    · have h2 : x ∈ ws := by simpa [Ne.symm e] using h
      have ih := keyIx_sts x ws h2
      simp only [sts] at ih
      have : (w == x) = false := by simpa using e
      rw [if_neg e, ih, List.idxOf_cons, this]; rfl
/-- a dict of a row of words and what each comes to -/
def rowD (ws : List Str) (g : Nat → I) : List I × List I := (sts ws, (List.range ws.length).map g)
theorem rowD_snoc {ws : List Str} {x : Str} (g : Nat → I) (h : x ∉ ws) : putV (.str x) (g ws.length) (rowD ws g) = rowD (ws ++ [x]) g := by
  have hk : keyIx (.str x) (sts ws) = none := by
    rw [keyIx_none]; simp only [sts, List.mem_map, I.str.injEq]
    rintro ⟨y, hy, rfl⟩; exact h hy
  simp only [putV, rowD, hk, List.length_append, List.length_cons, List.length_nil, List.range_succ, sts_append, sts_one, List.map_append, List.map_cons, List.map_nil]
theorem rowD_len (ws : List Str) (g : Nat → I) : (rowD ws g).1.length = (rowD ws g).2.length := by simp [rowD]
theorem rowD_get {ws : List Str} (g : Nat → I) {x : Str} (h : x ∈ ws) : vget (rowD ws g) (.str x) = some (g (ws.idxOf x)) := by
  have hl := List.idxOf_lt_length_of_mem h
  simp only [vget, rowD, keyIx_sts x ws h, Option.bind_some, List.getElem?_map, List.getElem?_range hl, Option.map_some]
theorem iEnum_map (ws : List Str) : ∀ n, iEnum n (sts ws) = (ws.zipIdx n).map fun p => I.tup [.int (p.2 : Int), .str p.1] := by
  induction ws with
  | nil => intro n; rfl
  | cons w ws ih => intro n; have := ih (n + 1); simp only [sts] at this; simp [sts, iEnum, this]
theorem pairs_rowD (g : Nat → I) : ∀ (ws ps : List Str), (ps ++ ws).Nodup → iPairs (rowD ps g) ((ws.zipIdx ps.length).map fun p => I.tup [.str p.1, g p.2]) = some (rowD (ps ++ ws) g)
  | [], ps, _ => by simp [iPairs]
  | w :: ws, ps, h => by
    have hx : w ∉ ps := fun z => (List.nodup_append.1 h).2.2 w z w (List.mem_cons_self ..) rfl
    have ih := pairs_rowD g ws (ps ++ [w]) (by simpa using h)
    simp only [List.length_append, List.length_cons, List.length_nil, Nat.zero_add, List.append_assoc, List.singleton_append] at ih
    simp only [List.zipIdx_cons, List.map_cons, iPairs, iKey, if_true, rowD_snoc g hx, ih]
/-! words by numbers -/
def wofL (k : Nat) : List Nat := if h : k < 26 then [97 + k] else wofL (k / 26) ++ [97 + k % 26]
termination_by k
decreasing_by omega
def wof (k : Nat) : Str := ⟨(wofL k ++ [113]).toArray⟩
theorem wofL_lt {k : Nat} (h : k < 26) : wofL k = [97 + k] := by rw [wofL, dif_pos h]
theorem wofL_ge {k : Nat} (h : ¬ k < 26) : wofL k = wofL (k / 26) ++ [97 + k % 26] := by rw [wofL, dif_neg h]
theorem wofL_ne (k : Nat) : wofL k ≠ [] := by
  by_cases h : k < 26
  · rw [wofL_lt h]; simp
  · rw [wofL_ge h]; simp
theorem wofL_inj : ∀ (n a b : Nat), a ≤ n → wofL a = wofL b → a = b
  | n, a, b, hn, h => by
    by_cases ha : a < 26
    · by_cases hb : b < 26
      · rw [wofL_lt ha, wofL_lt hb] at h; simp at h; omega
      · rw [wofL_lt ha, wofL_ge hb] at h
        have := wofL_ne (b / 26)
        cases hl : wofL (b / 26) with
        | nil => exact absurd hl this
        | cons x xs => rw [hl] at h; simp at h
    · by_cases hb : b < 26
      · rw [wofL_ge ha, wofL_lt hb] at h
        have := wofL_ne (a / 26)
        cases hl : wofL (a / 26) with
        | nil => exact absurd hl this
        | cons x xs => rw [hl] at h; simp at h
      · rw [wofL_ge ha, wofL_ge hb] at h
        obtain ⟨h1, h2⟩ := List.append_inj' h rfl
        cases n with
        | zero => omega
        | succ n =>
          have := wofL_inj n (a / 26) (b / 26) (by omega) h1
          simp at h2; omega
theorem wof_inj {a b : Nat} (h : wof a = wof b) : a = b := by
  simp only [wof, Str.mk.injEq] at h
  have h : (wofL a ++ [113]) = (wofL b ++ [113]) := List.toArray_inj h
  exact wofL_inj a a b (Nat.le_refl _) (List.append_inj' h rfl).1
theorem wofL_len : ∀ (n k : Nat), k < 26 ^ (n + 1) → (wofL k).length ≤ n + 1
  | 0, k, h => by rw [wofL_lt (by simpa using h)]; simp
  | n + 1, k, h => by
    by_cases hk : k < 26
    · rw [wofL_lt hk]; simp
    · rw [wofL_ge hk]
      have := wofL_len n (k / 26) (by rw [Nat.pow_succ] at h; exact Nat.div_lt_of_lt_mul (by rw [Nat.mul_comm]; exact h))
      simp; omega
theorem str_app (a b : List Nat) : (⟨a.toArray⟩ : Str) ++ ⟨b.toArray⟩ = ⟨(a ++ b).toArray⟩ := by
  show (⟨a.toArray ++ b.toArray⟩ : Str) = _
  simp
theorem lett_eq (j : Nat) : lett j = ⟨[97 + j].toArray⟩ := rfl
/-- what is ahead of the last figure -/
def wofP (k : Nat) : List Nat := if k < 26 then [] else wofL (k / 26)
theorem wofP_eq (k : Nat) : wofL k = wofP k ++ [97 + k % 26] := by
  by_cases h : k < 26
  · rw [wofL_lt h, wofP, if_pos h, Nat.mod_eq_of_lt h]; rfl
  · rw [wofL_ge h, wofP, if_neg h]
end Wn
end
section
/-! T6: turned parts told anew. Needs words_in, hands_in, word_of, words_by, term_by, part_by, anew. -/
namespace Wn
open PySem
def St.ren (f : Str → Str) : St → St
  | .num n => .num n
  | .nm x => .nm (f x)
  | .bin l a b => .bin l (a.ren f) (b.ren f)
def Tp.ren (f g : Str → Str) : Tp → Tp
  | .give j s => .give (g j) (s.ren f)
  | .ask e ss j => .ask e (ss.map (St.ren f)) (g j)
  | .bnd t x s p => .bnd t (f x) (s.ren f) (p.ren f g)
  | .ifs s p q => .ifs (s.ren f) (p.ren f g) (q.ren f g)
  | .post j x p q => .post (g j) (f x) (p.ren f g) (q.ren f g)
/-- a dict has what each comes to -/
def RD (d : List I × List I) (U : List Str) (f : Str → Str) : Prop := ∀ x ∈ U, vget d (.str x) = some (.str (f x))
theorem Tp.words_le : ∀ p : Tp, p.words.length ≤ p.size
  | .give _ _ => by simp [Tp.words]
  | .ask _ _ _ => by simp [Tp.words]
  | .bnd _ _ _ p => by have := p.words_le; simp [Tp.words, Tp.size]; omega
  | .ifs _ p q => by have := p.words_le; have := q.words_le; simp [Tp.words, Tp.size]; omega
  | .post _ _ p q => by have := p.words_le; have := q.words_le; simp [Tp.words, Tp.size]; omega
theorem Tp.posts_le : ∀ p : Tp, p.posts.length ≤ p.size
  | .give _ _ => by simp [Tp.posts]
  | .ask _ _ _ => by simp [Tp.posts]
  | .bnd _ _ _ p => by have := p.posts_le; simp [Tp.posts, Tp.size]; omega
  | .ifs _ p q => by have := p.posts_le; have := q.posts_le; simp [Tp.posts, Tp.size]; omega
  | .post _ _ p q => by have := p.posts_le; have := q.posts_le; simp [Tp.posts, Tp.size]; omega
section
variable {wf : Nat}
theorem words_in : ∀ (p : Tp) {k : Nat} (hk : p.deep + 2 ≤ k) (hs : p.size ≤ 100000), (vctx VT wf k).call "words_in" [.im p.i] = .ok (lstV (sts p.words)) [.gone]
  | .give j s, k, hk, hs => by
    obtain ⟨k, rfl⟩ := Nat.exists_eq_add_of_le' (show 1 ≤ k by omega)
    rw [vc_words_in _ rfl]
    simp only [Tp.deep] at hk
    have h := inner_turned (wf := wf) (k := k) (by omega) (.give j s)
    simp only [Tp.i, Tp.inner, List.map_nil] at h
    simp [f_words_in, Tp.i, h, Tp.words, sts]
  | .ask f ss j, k, hk, hs => by
    obtain ⟨k, rfl⟩ := Nat.exists_eq_add_of_le' (show 1 ≤ k by omega)
    rw [vc_words_in _ rfl]
    simp only [Tp.deep] at hk
    have h := inner_turned (wf := wf) (k := k) (by omega) (.ask f ss j)
    simp only [Tp.i, Tp.inner, List.map_nil] at h
    simp [f_words_in, Tp.i, h, Tp.words, sts]
  | .bnd t x s p, k, hk, hs => by
    obtain ⟨k, rfl⟩ := Nat.exists_eq_add_of_le' (show 1 ≤ k by omega)
    rw [vc_words_in _ rfl]
    simp only [Tp.deep, Tp.size] at hk hs
    have h := inner_turned (wf := wf) (k := k) (by omega) (.bnd t x s p)
    have e1 := words_in p (k := k) (by omega) (by omega)
    have hb := bigN
    have hl := p.words_le
    have b1 : 1 + p.words.length ≤ 16777216 := by omega
    simp only [Tp.i, Tp.inner, List.map_cons, List.map_nil] at h
    cases t <;> simp only [bndw_true, bndw_false] at h <;> simp [f_words_in, Tp.i, h, stepV, vSetTg, b1_words_in, e1, hb, b1, Tp.words] <;> simp [sts]
  | .ifs s p q, k, hk, hs => by
    obtain ⟨k, rfl⟩ := Nat.exists_eq_add_of_le' (show 1 ≤ k by omega)
    rw [vc_words_in _ rfl]
    simp only [Tp.deep, Tp.size] at hk hs
    have h := inner_turned (wf := wf) (k := k) (by omega) (.ifs s p q)
    have e1 := words_in p (k := k) (by omega) (by omega)
    have e2 := words_in q (k := k) (by omega) (by omega)
    have hb := bigN
    have hl := p.words_le
    have hl2 := q.words_le
    have b1 : p.words.length ≤ 16777216 := by omega
    have b2 : p.words.length + q.words.length ≤ 16777216 := by omega
    simp only [Tp.i, Tp.inner, List.map_cons, List.map_nil] at h
    simp [f_words_in, Tp.i, h, stepV, vSetTg, b1_words_in, e1, e2, hb, b1, b2, Tp.words]
  | .post j x p q, k, hk, hs => by
    obtain ⟨k, rfl⟩ := Nat.exists_eq_add_of_le' (show 1 ≤ k by omega)
    rw [vc_words_in _ rfl]
    simp only [Tp.deep, Tp.size] at hk hs
    have h := inner_turned (wf := wf) (k := k) (by omega) (.post j x p q)
    have e1 := words_in p (k := k) (by omega) (by omega)
    have e2 := words_in q (k := k) (by omega) (by omega)
    have hb := bigN
    have hl := p.words_le
    have hl2 := q.words_le
    have b1 : 1 + p.words.length ≤ 16777216 := by omega
    have b2 : p.words.length + 1 + q.words.length ≤ 16777216 := by omega
    simp only [Tp.i, Tp.inner, List.map_cons, List.map_nil] at h
    simp [f_words_in, Tp.i, h, stepV, vSetTg, b1_words_in, e1, e2, hb, b1, b2, Tp.words]
    simp [sts]
theorem hands_in : ∀ (p : Tp) {k : Nat} (hk : p.deep + 2 ≤ k) (hs : p.size ≤ 100000), (vctx VT wf k).call "hands_in" [.im p.i] = .ok (lstV (sts p.posts)) [.gone]
  | .give j s, k, hk, hs => by
    obtain ⟨k, rfl⟩ := Nat.exists_eq_add_of_le' (show 1 ≤ k by omega)
    rw [vc_hands_in _ rfl]
    simp only [Tp.deep] at hk
    have h := inner_turned (wf := wf) (k := k) (by omega) (.give j s)
    simp only [Tp.i, Tp.inner, List.map_nil] at h
    simp [f_hands_in, Tp.i, h, Tp.posts, sts]
  | .ask f ss j, k, hk, hs => by
    obtain ⟨k, rfl⟩ := Nat.exists_eq_add_of_le' (show 1 ≤ k by omega)
    rw [vc_hands_in _ rfl]
    simp only [Tp.deep] at hk
    have h := inner_turned (wf := wf) (k := k) (by omega) (.ask f ss j)
    simp only [Tp.i, Tp.inner, List.map_nil] at h
    simp [f_hands_in, Tp.i, h, Tp.posts, sts]
  | .bnd t x s p, k, hk, hs => by
    obtain ⟨k, rfl⟩ := Nat.exists_eq_add_of_le' (show 1 ≤ k by omega)
    rw [vc_hands_in _ rfl]
    simp only [Tp.deep, Tp.size] at hk hs
    have h := inner_turned (wf := wf) (k := k) (by omega) (.bnd t x s p)
    have e1 := hands_in p (k := k) (by omega) (by omega)
    have hb := bigN
    have hl := p.posts_le
    have b1 : p.posts.length ≤ 16777216 := by omega
    simp only [Tp.i, Tp.inner, List.map_cons, List.map_nil] at h
    cases t <;> simp only [bndw_true, bndw_false] at h <;> simp [f_hands_in, Tp.i, h, stepV, vSetTg, b1_hands_in, e1, hb, b1, Tp.posts]
  | .ifs s p q, k, hk, hs => by
    obtain ⟨k, rfl⟩ := Nat.exists_eq_add_of_le' (show 1 ≤ k by omega)
    rw [vc_hands_in _ rfl]
    simp only [Tp.deep, Tp.size] at hk hs
    have h := inner_turned (wf := wf) (k := k) (by omega) (.ifs s p q)
    have e1 := hands_in p (k := k) (by omega) (by omega)
    have e2 := hands_in q (k := k) (by omega) (by omega)
    have hb := bigN
    have hl := p.posts_le
    have hl2 := q.posts_le
    have b1 : p.posts.length ≤ 16777216 := by omega
    have b2 : p.posts.length + q.posts.length ≤ 16777216 := by omega
    simp only [Tp.i, Tp.inner, List.map_cons, List.map_nil] at h
    simp [f_hands_in, Tp.i, h, stepV, vSetTg, b1_hands_in, e1, e2, hb, b1, b2, Tp.posts]
  | .post j x p q, k, hk, hs => by
    obtain ⟨k, rfl⟩ := Nat.exists_eq_add_of_le' (show 1 ≤ k by omega)
    rw [vc_hands_in _ rfl]
    simp only [Tp.deep, Tp.size] at hk hs
    have h := inner_turned (wf := wf) (k := k) (by omega) (.post j x p q)
    have e1 := hands_in p (k := k) (by omega) (by omega)
    have e2 := hands_in q (k := k) (by omega) (by omega)
    have hb := bigN
    have hl := p.posts_le
    have hl2 := q.posts_le
    have b1 : 1 + p.posts.length ≤ 16777216 := by omega
    have b2 : p.posts.length + 1 + q.posts.length ≤ 16777216 := by omega
    simp only [Tp.i, Tp.inner, List.map_cons, List.map_nil] at h
    simp [f_hands_in, Tp.i, h, stepV, vSetTg, b1_hands_in, e1, e2, hb, b1, b2, Tp.posts]
    simp [sts]
theorem word_of {k : Nat} (hk : 1 ≤ k) (hw : 10 ≤ wf) {n : Nat} (hn : n < 11881376) : (vctx VT wf k).call "word_of" [.im (.int n)] = .ok (.im (.str (wof n))) [.gone] := by
  obtain ⟨k, rfl⟩ := Nat.exists_eq_add_of_le' hk
  rw [vc_word_of _ rfl]
  have hb := bigN
  have hL := whStep_inv (c := vCtx VT wf k []) (t := t1_word_of) (b := b1_word_of) (fun m E => ∃ (q : Nat) (F : List Nat), E = [.im (.int q), .im (.str ⟨F.toArray⟩)] ∧ wofL n = wofP q ++ F ∧ q < 26 ^ (m + 1) ∧ F.length + m ≤ 10) (by
    rintro m E ⟨q, F, rfl, h1, h2, h3⟩
    by_cases hq : 26 ≤ q
    · have hq' : (26 : Int) ≤ (q : Int) := by omega
      refine .inr ?_
      cases m with
      | zero => simp at h2; omega
      | succ m =>
        have hd : q / 26 < 26 ^ (m + 1) := by
          rw [Nat.pow_succ] at h2; exact Nat.div_lt_of_lt_mul (by rw [Nat.mul_comm]; exact h2)
        refine ⟨m, [.im (.int (q / 26 : Nat)), .im (.str ⟨((97 + q / 26 % 26) :: F).toArray⟩)], rfl, by simp [t1_word_of, hq'], ?_, q / 26, (97 + q / 26 % 26) :: F, rfl, ?_, hd, by simp; omega⟩
        · have hi := abc_idx (j := q / 26 % 26) (Nat.mod_lt _ (by decide))
          have hc : ((q : Int) / 26) = ((q / 26 : Nat) : Int) := by omega
          have hc2 : (((q / 26 : Nat) : Int) % 26) = ((q / 26 % 26 : Nat) : Int) := by omega
          have hs : lett (q / 26 % 26) ++ (⟨F.toArray⟩ : Str) = ⟨((97 + q / 26 % 26) :: F).toArray⟩ := by rw [lett_eq, str_app]; rfl
          have hl : (lett (q / 26 % 26)).length + (⟨F.toArray⟩ : Str).length ≤ 16777216 := by
            have : (⟨F.toArray⟩ : Str).length = F.length := by simp [Str.length]
            have : (lett (q / 26 % 26)).length = 1 := rfl
            omega
          generalize q / 26 = z at *
          generalize hz : z % 26 = y at *
          simp [b1_word_of, hc, hc2, hi, hb, hl, hs, -iIdx_str]
        · rw [h1]
          have : wofP q = wofP (q / 26) ++ [97 + q / 26 % 26] := by
            rw [← wofP_eq, wofP, if_neg (by omega)]
          rw [this]; simp
    · have hq' : ¬ (26 : Int) ≤ (q : Int) := by omega
      exact .inl (by simp [t1_word_of, hq']))
  obtain ⟨E', m, e, ⟨q, F, rfl, h1, h2, h3⟩, e2⟩ := hL 4 [.im (.int n), .im (.str ⟨[97 + n % 26].toArray⟩)] wf (by omega) ⟨n, [97 + n % 26], rfl, wofP_eq n, by simpa using hn, by simp⟩
  have hq : q < 26 := by
    by_cases hq : 26 ≤ q
    · have hq' : (26 : Int) ≤ (q : Int) := by omega
      simp [t1_word_of, hq'] at e2
    · omega
  have hF : wofL n = F := by rw [h1, wofP, if_pos hq]; rfl
  have hi := abc_idx (j := n % 26) (Nat.mod_lt _ (by decide))
  have hc : ((n : Int) % 26) = ((n % 26 : Nat) : Int) := by omega
  have hs : (⟨F.toArray⟩ : Str) ++ Str.ofString "q" = wof n := by
    have : Str.ofString "q" = ⟨[113].toArray⟩ := by decide +kernel
    rw [this, str_app, wof, hF]
  have hl : (⟨F.toArray⟩ : Str).length + (Str.ofString "q").length ≤ 16777216 := by
    have : (⟨F.toArray⟩ : Str).length = F.length := by simp [Str.length]
    have : (Str.ofString "q").length = 1 := by decide +kernel
    omega
  rw [lett_eq] at hi
  generalize n % 26 = y at *
  simp [f_word_of, hc, hi, vS_whl, e, hb, hl, hs, -iIdx_str]
/-- a dict of words, each by its number -/
def wbD (ws : List Str) : List I × List I := rowD ws fun k => .str (wof k)
def fw (ws : List Str) (x : Str) : Str := wof (ws.idxOf x)
theorem wbD_rd (ws : List Str) : RD (wbD ws) ws (fw ws) := fun x h => rowD_get _ h
theorem words_by {k : Nat} (hk : 2 ≤ k) (hw : 10 ≤ wf) {ws : List Str} (hn : ws.Nodup) (hl : ws.length ≤ 100000) : (vctx VT wf k).call "words_by" [.im (.lst (sts ws))] = .ok (dicV (wbD ws)) [.gone] := by
  obtain ⟨k, rfl⟩ := Nat.exists_eq_add_of_le' (show 1 ≤ k by omega)
  rw [vc_words_by _ rfl]
  have hb := bigN
  have go := vlcGo_mapE (step := vlcStep (vCtx VT wf k []) l1_words_by (.tup [1, 2]) .none) (E := [.im (.lst (sts ws)), .gone, .gone]) (fun (p : Str × Nat) => I.tup [.int (p.2 : Int), .str p.1]) (fun p => I.tup [.str p.1, .str (wof p.2)]) (ws.zipIdx 0) (by simp; omega) (by
    intro p hp
    have h2 := List.mem_zipIdx hp
    have e := word_of (wf := wf) (k := k) (by omega) hw (n := p.2) (by omega)
    simp [vlcStep, tgFree, tgFree.free1, vSetTg, vSetTg.setAll, l1_words_by, e, unTg])
  have hp := pairs_rowD (fun k => I.str (wof k)) ws [] (by simpa using hn)
  have h0 : rowD [] (fun k => I.str (wof k)) = ([], []) := rfl
  rw [h0] at hp
  simp only [List.length_nil, List.nil_append] at hp
  have he := iEnum_map ws 0
  simp [f_words_by, iItems, he, go, mkL_map, hp, wbD]
theorem term_by {d : List I × List I} {U : List Str} {f : Str → Str} (h : RD d U f) : ∀ (s : St) {k : Nat} (hk : s.deep + 1 ≤ k), s.ok U → (vctx VT wf k).call "term_by" [.im s.i, .im (.dic d.1 d.2)] = .ok (.im (s.ren f).i) [.gone, .gone]
  | .num n, k, hk, ho => by
    obtain ⟨k, rfl⟩ := Nat.exists_eq_add_of_le' (show 1 ≤ k by omega)
    rw [vc_term_by _ rfl]
    simp [f_term_by, St.i, St.ren]
  | .nm x, k, hk, ho => by
    obtain ⟨k, rfl⟩ := Nat.exists_eq_add_of_le' (show 1 ≤ k by omega)
    rw [vc_term_by _ rfl]
    have e := h x ho
    simp only [vget] at e
    simp [f_term_by, St.i, St.ren, e]
  | .bin l a b, k, hk, ho => by
    obtain ⟨k, rfl⟩ := Nat.exists_eq_add_of_le' (show 1 ≤ k by omega)
    rw [vc_term_by _ rfl]
    simp only [St.deep] at hk
    have e1 := term_by h a (k := k) (by omega) ho.1
    have e2 := term_by h b (k := k) (by omega) ho.2
    have hb := bigN
    cases l <;> simp [f_term_by, St.i, St.ren, vlcStep, tgFree, tgFree.free1, vSetTg, l2_term_by, e1, e2, unTg, hb]
theorem part_by {d h : List I × List I} {U V : List Str} {f g : Str → Str} (hd : RD d U f) (hh : RD h V g) (hdm : Str → Option Nat) : ∀ (p : Tp) {k : Nat} (hk : p.deep + 3 ≤ k) {A H : List Str}, p.ok hdm A H → p.small 1 → (∀ x ∈ A, x ∈ U) → (∀ x ∈ p.words, x ∈ U) → (∀ x ∈ H, x ∈ V) → (∀ x ∈ p.posts, x ∈ V) →
    (vctx VT wf k).call "part_by" [.im p.i, .im (.dic d.1 d.2), .im (.dic h.1 h.2)] = .ok (.im (p.ren f g).i) [.gone, .gone, .gone]
  | .give j s, k, hk, A, H, ho, hs, hA, hW, hH, hP => by
    obtain ⟨k, rfl⟩ := Nat.exists_eq_add_of_le' (show 1 ≤ k by omega)
    rw [vc_part_by _ rfl]
    simp only [Tp.deep] at hk
    have e1 := term_by (wf := wf) hd s (k := k) (by have : s.deep ≤ 1 := hs; omega) (ho.2.mono hA)
    have e2 := hh j (hH j ho.1)
    simp only [vget] at e2
    simp [f_part_by, Tp.i, Tp.ren, e1, e2]
  | .ask e ss j, k, hk, A, H, ho, hs, hA, hW, hH, hP => by
    obtain ⟨k, rfl⟩ := Nat.exists_eq_add_of_le' (show 1 ≤ k by omega)
    rw [vc_part_by _ rfl]
    simp only [Tp.deep] at hk
    have hb := bigN
    have e2 := hh j (hH j ho.2.2)
    simp only [vget] at e2
    have go := vlcGo_mapE (step := vlcStep (vCtx VT wf k []) l1_part_by (.nm 3) .none) (E := [.im (Tp.ask e ss j).i, .im (.dic d.1 d.2), .im (.dic h.1 h.2), .gone, .gone]) St.i (fun s => (s.ren f).i) ss (by have := hs.1; omega) (by
      intro s hm
      have e1 := term_by (wf := wf) hd s (k := k) (by have := hs.2 s hm; omega) ((ho.2.1 s hm).mono hA)
      simp [vlcStep, tgFree, tgFree.free1, vSetTg, l1_part_by, e1, unTg])
    simp only [Tp.i] at go
    simp [f_part_by, Tp.i, Tp.ren, go, mkL_map, e2, Function.comp_def]
  | .bnd t x s p, k, hk, A, H, ho, hs, hA, hW, hH, hP => by
    obtain ⟨k, rfl⟩ := Nat.exists_eq_add_of_le' (show 1 ≤ k by omega)
    rw [vc_part_by _ rfl]
    simp only [Tp.deep] at hk
    have hb := bigN
    have e1 := term_by (wf := wf) hd s (k := k) (by have : s.deep ≤ 1 := hs.1; omega) (ho.1.mono hA)
    have e2 := hd x (hW x (by simp [Tp.words]))
    simp only [vget] at e2
    have e3 := part_by hd hh hdm p (k := k) (by omega) ho.2 hs.2 (fun y hy => by
      rcases List.mem_append.1 hy with z | z
      · exact hA y z
      · simp at z; subst z; exact hW y (by simp [Tp.words])) (fun y hy => hW y (by simp [Tp.words, hy])) hH hP
    cases t <;> simp [f_part_by, Tp.i, Tp.ren, e1, e2, e3]
  | .ifs s p q, k, hk, A, H, ho, hs, hA, hW, hH, hP => by
    obtain ⟨k, rfl⟩ := Nat.exists_eq_add_of_le' (show 1 ≤ k by omega)
    rw [vc_part_by _ rfl]
    simp only [Tp.deep] at hk
    have e1 := term_by (wf := wf) hd s (k := k) (by have : s.deep ≤ 1 := hs.1; omega) (ho.1.mono hA)
    have e3 := part_by hd hh hdm p (k := k) (by omega) ho.2.1 hs.2.1 hA (fun y hy => hW y (by simp [Tp.words, hy])) hH (fun y hy => hP y (by simp [Tp.posts, hy]))
    have e4 := part_by hd hh hdm q (k := k) (by omega) ho.2.2 hs.2.2 hA (fun y hy => hW y (by simp [Tp.words, hy])) hH (fun y hy => hP y (by simp [Tp.posts, hy]))
    simp [f_part_by, Tp.i, Tp.ren, e1, e3, e4]
  | .post j x p q, k, hk, A, H, ho, hs, hA, hW, hH, hP => by
    obtain ⟨k, rfl⟩ := Nat.exists_eq_add_of_le' (show 1 ≤ k by omega)
    rw [vc_part_by _ rfl]
    simp only [Tp.deep] at hk
    have hb := bigN
    have e1 := hh j (hP j (by simp [Tp.posts]))
    have e2 := hd x (hW x (by simp [Tp.words]))
    simp only [vget] at e1 e2
    have e3 := part_by hd hh hdm p (k := k) (by omega) ho.1 hs.1 (fun y hy => by
      rcases List.mem_append.1 hy with z | z
      · exact hA y z
      · simp at z; subst z; exact hW y (by simp [Tp.words])) (fun y hy => hW y (by simp [Tp.words, hy])) hH (fun y hy => hP y (by simp [Tp.posts, hy]))
    have e4 := part_by hd hh hdm q (k := k) (by omega) ho.2 hs.2 hA (fun y hy => hW y (by simp [Tp.words, hy])) (fun y hy => by
      rcases List.mem_append.1 hy with z | z
      · exact hH y z
      · simp at z; subst z; exact hP y (by simp [Tp.posts])) (fun y hy => hP y (by simp [Tp.posts, hy]))
    simp [f_part_by, Tp.i, Tp.ren, e1, e2, e3, e4, hb]
/-- what is leant on in an errand that is told anew -/
structure AnOk (hdm : Str → Option Nat) (e : Te) : Prop where
  nw : (e.2.1 ++ e.2.2.words).Nodup
  np : e.2.2.posts.Nodup
  nh : ("home" : Str) ∉ e.2.2.posts
  ok : e.2.2.ok hdm e.2.1 ["home"]
  small : e.2.2.small 1
  size : e.2.2.size ≤ 1000
  deep : e.2.2.deep ≤ 100
  names : e.2.1.length ≤ 100
def fh (ps : List Str) (x : Str) : Str := if x = "home" then "home" else fw ps x
def anE (e : Te) : Te := (e.1, e.2.1.map (fw (e.2.1 ++ e.2.2.words)), e.2.2.ren (fw (e.2.1 ++ e.2.2.words)) (fh e.2.2.posts))
theorem home_rd {ps : List Str} (h : ("home" : Str) ∉ ps) : RD (putV (.str "home") (.str "home") (wbD ps)) ("home" :: ps) (fh ps) := by
  intro x hx
  rw [vget_put (show (wbD ps).1.length = (wbD ps).2.length from rowD_len _ _)]
  by_cases e : x = "home"
  · subst e; simp [fh]
  · rw [if_neg (by simpa using e)]
    have hx : x ∈ ps := by simpa [e] using hx
    rw [wbD_rd ps x hx, fh, if_neg e]
theorem anew {k : Nat} (hk : 110 ≤ k) (hw : 10 ≤ wf) (hdm : Str → Option Nat) (b : Tb) (hb6 : b.length ≤ 100) (h : ∀ e ∈ b, AnOk hdm e) : (vctx VT wf k).call "anew" [.im (tbI b)] = .ok (.im (tbI (b.map anE))) [.gone] := by
  obtain ⟨k, rfl⟩ := Nat.exists_eq_add_of_le' hk
  rw [vc_anew _ rfl]
  have hb := bigN
  have go := vforGo_acc (step := stepV (vCtx VT wf (k + 109) []) (.tup [2, 3, 4]) b1_anew) (fun a => [.im (tbI b), lstV a, .gone, .gone, .gone, .gone, .gone, .gone]) teI (fun e => [teI (anE e)]) 16777216 b [] (by
    intro e he a ha
    have ok := h e he
    obtain ⟨f, N, p⟩ := e
    have hsz := ok.size
    have hdp := ok.deep
    have hN := ok.names
    simp only at hsz hdp hN
    have hwl := p.words_le
    have hpl := p.posts_le
    have e1 := words_in (wf := wf) p (k := k + 109) (by omega) (by omega)
    have e2 := hands_in (wf := wf) p (k := k + 109) (by omega) (by omega)
    have e3 := words_by (wf := wf) (k := k + 109) (by omega) hw ok.nw (by simp; omega)
    have e4 := words_by (wf := wf) (k := k + 109) (by omega) hw ok.np (by simp; omega)
    simp only [sts_append] at e3
    simp only at e4
    have hput := vSet_dicV (wbD p.posts) (.str "home") (.str "home") rfl (by simp [wbD, rowD]; omega)
    have e5 := part_by (wf := wf) (wbD_rd (N ++ p.words)) (home_rd ok.nh) hdm p (k := k + 109) (by omega) ok.ok ok.small (fun x hx => List.mem_append_left _ hx) (fun x hx => List.mem_append_right _ hx) (fun x hx => by simp at hx; subst hx; exact List.mem_cons_self ..) (fun x hx => List.mem_cons_of_mem _ hx)
    have go : vlcGo (vlcStep (vCtx VT wf (k + 109) []) l1_anew (.nm 7) .none) (sts N) [] [.im (tbI b), lstV a, .im (.str f), .im (.tup (sts N)), .im p.i, dicV (wbD (N ++ p.words)), dicV (putV (.str "home") (.str "home") (wbD p.posts)), .gone] = .ok ((sts (N.map (fw (N ++ p.words)))).map .im) [.im (tbI b), lstV a, .im (.str f), .im (.tup (sts N)), .im p.i, dicV (wbD (N ++ p.words)), dicV (putV (.str "home") (.str "home") (wbD p.posts)), .gone] := by
      have go := vlcGo_mapE (step := vlcStep (vCtx VT wf (k + 109) []) l1_anew (.nm 7) .none) (E := [.im (tbI b), lstV a, .im (.str f), .im (.tup (sts N)), .im p.i, dicV (wbD (N ++ p.words)), dicV (putV (.str "home") (.str "home") (wbD p.posts)), .gone]) I.str (fun x => I.str (fw (N ++ p.words) x)) N (by omega) (by
        intro x hx
        have hm : x ∈ N ++ p.words := List.mem_append_left _ hx
        have hk := keyIx_sts x _ hm
        have hv : ((List.range (N ++ p.words).length).map fun k => I.str (wof k))[(N ++ p.words).idxOf x]? = some (.str (fw (N ++ p.words) x)) := by
          have hl := List.idxOf_lt_length_of_mem hm
          simp only [List.getElem?_map, List.getElem?_range hl, Option.map_some]; rfl
        simp only [wbD, rowD]
        simp [vlcStep, tgFree, tgFree.free1, vSetTg, l1_anew, hk, hv, unTg, -sts_append, -List.length_append])
      simp only [sts, List.map_map, Function.comp_def] at go ⊢
      exact go
    have hal : a.length < 16777216 := by simp at ha; omega
    have hnw : N.length + p.words.length ≤ 16777216 := by omega
    simp [stepV, b1_anew, vSetTg, vSetTg.setAll, teI, e1, e2, hb, hnw, e3, e4, hput, go, mkL_map, e5, hal, anE]) (by
    have h2 := flat_le (fun e : Te => [teI (anE e)]) 1 b (fun e he => by simp)
    simp at h2 ⊢; omega)
  have hm : (b.flatMap fun e => [teI (anE e)]) = (b.map anE).map teI := by
    clear go h hb6
    induction b with
    | nil => rfl
    | cons x b ih => simp [ih]
  rw [hm] at go
  simp only [List.nil_append, tbI] at go
  simp [f_anew, tbI, go]
end
end Wn
end
section
/-! T7: the law's own telling anew (printed by mkT7.py). Needs _law_inner, _law_simples, _law_twords, _law_tposts, _law_parts, _law_called, _law_tcalled, _law_by_numbers, _law_anew. -/
namespace Wn
open PySem
section
variable {wf : Nat}
theorem law_inner {k : Nat} (hk : 1 ≤ k) (p : Tp) : (vctx VT wf k).call "_law_inner" [.im p.i] = .ok (.im (.tup (p.inner.map Tp.i))) [.gone] := by
  obtain ⟨k, rfl⟩ := Nat.exists_eq_add_of_le' hk
  rw [vc__law_inner _ rfl]
  cases p with
  | bnd t x s p => cases t <;> simp [f__law_inner, iIn, iAnyEq, Tp.i, Tp.inner]
  | _ => simp [f__law_inner, iIn, iAnyEq, Tp.i, Tp.inner]
theorem law_simples {k : Nat} (hk : 1 ≤ k) (p : Tp) : (vctx VT wf k).call "_law_simples" [.im p.i] = .ok (.im (.tup (p.simples.map St.i))) [.gone] := by
  obtain ⟨k, rfl⟩ := Nat.exists_eq_add_of_le' hk
  rw [vc__law_simples _ rfl]
  cases p with
  | bnd t x s p => cases t <;> simp [f__law_simples, Tp.i, Tp.simples]
  | _ => simp [f__law_simples, Tp.i, Tp.simples]
theorem law_twords : ∀ (p : Tp) {k : Nat} (hk : p.deep + 2 ≤ k) (hs : p.size ≤ 100000), (vctx VT wf k).call "_law_twords" [.im p.i] = .ok (lstV (sts p.words)) [.gone]
  | .give j s, k, hk, hs => by
    obtain ⟨k, rfl⟩ := Nat.exists_eq_add_of_le' (show 1 ≤ k by omega)
    rw [vc__law_twords _ rfl]
    simp only [Tp.deep] at hk
    have h := law_inner (wf := wf) (k := k) (by omega) (.give j s)
    simp only [Tp.i, Tp.inner, List.map_nil] at h
    simp [f__law_twords, iIn, iAnyEq, Tp.i, h, Tp.words, sts]
  | .ask f ss j, k, hk, hs => by
    obtain ⟨k, rfl⟩ := Nat.exists_eq_add_of_le' (show 1 ≤ k by omega)
    rw [vc__law_twords _ rfl]
    simp only [Tp.deep] at hk
    have h := law_inner (wf := wf) (k := k) (by omega) (.ask f ss j)
    simp only [Tp.i, Tp.inner, List.map_nil] at h
    simp [f__law_twords, iIn, iAnyEq, Tp.i, h, Tp.words, sts]
  | .bnd t x s p, k, hk, hs => by
    obtain ⟨k, rfl⟩ := Nat.exists_eq_add_of_le' (show 1 ≤ k by omega)
    rw [vc__law_twords _ rfl]
    simp only [Tp.deep, Tp.size] at hk hs
    have h := law_inner (wf := wf) (k := k) (by omega) (.bnd t x s p)
    have e1 := law_twords p (k := k) (by omega) (by omega)
    have hb := bigN
    have hl := p.words_le
    have b1 : 1 + p.words.length ≤ 16777216 := by omega
    simp only [Tp.i, Tp.inner, List.map_cons, List.map_nil] at h
    cases t <;> simp only [bndw_true, bndw_false] at h <;> simp [f__law_twords, iIn, iAnyEq, Tp.i, h, stepV, vSetTg, b1__law_twords, e1, hb, b1, Tp.words] <;> simp [sts]
  | .ifs s p q, k, hk, hs => by
    obtain ⟨k, rfl⟩ := Nat.exists_eq_add_of_le' (show 1 ≤ k by omega)
    rw [vc__law_twords _ rfl]
    simp only [Tp.deep, Tp.size] at hk hs
    have h := law_inner (wf := wf) (k := k) (by omega) (.ifs s p q)
    have e1 := law_twords p (k := k) (by omega) (by omega)
    have e2 := law_twords q (k := k) (by omega) (by omega)
    have hb := bigN
    have hl := p.words_le
    have hl2 := q.words_le
    have b1 : p.words.length ≤ 16777216 := by omega
    have b2 : p.words.length + q.words.length ≤ 16777216 := by omega
    simp only [Tp.i, Tp.inner, List.map_cons, List.map_nil] at h
    simp [f__law_twords, iIn, iAnyEq, Tp.i, h, stepV, vSetTg, b1__law_twords, e1, e2, hb, b1, b2, Tp.words]
  | .post j x p q, k, hk, hs => by
    obtain ⟨k, rfl⟩ := Nat.exists_eq_add_of_le' (show 1 ≤ k by omega)
    rw [vc__law_twords _ rfl]
    simp only [Tp.deep, Tp.size] at hk hs
    have h := law_inner (wf := wf) (k := k) (by omega) (.post j x p q)
    have e1 := law_twords p (k := k) (by omega) (by omega)
    have e2 := law_twords q (k := k) (by omega) (by omega)
    have hb := bigN
    have hl := p.words_le
    have hl2 := q.words_le
    have b1 : 1 + p.words.length ≤ 16777216 := by omega
    have b2 : p.words.length + 1 + q.words.length ≤ 16777216 := by omega
    simp only [Tp.i, Tp.inner, List.map_cons, List.map_nil] at h
    simp [f__law_twords, iIn, iAnyEq, Tp.i, h, stepV, vSetTg, b1__law_twords, e1, e2, hb, b1, b2, Tp.words]
    simp [sts]
theorem law_tposts : ∀ (p : Tp) {k : Nat} (hk : p.deep + 2 ≤ k) (hs : p.size ≤ 100000), (vctx VT wf k).call "_law_tposts" [.im p.i] = .ok (lstV (sts p.posts)) [.gone]
  | .give j s, k, hk, hs => by
    obtain ⟨k, rfl⟩ := Nat.exists_eq_add_of_le' (show 1 ≤ k by omega)
    rw [vc__law_tposts _ rfl]
    simp only [Tp.deep] at hk
    have h := law_inner (wf := wf) (k := k) (by omega) (.give j s)
    simp only [Tp.i, Tp.inner, List.map_nil] at h
    simp [f__law_tposts, iIn, iAnyEq, Tp.i, h, Tp.posts, sts]
  | .ask f ss j, k, hk, hs => by
    obtain ⟨k, rfl⟩ := Nat.exists_eq_add_of_le' (show 1 ≤ k by omega)
    rw [vc__law_tposts _ rfl]
    simp only [Tp.deep] at hk
    have h := law_inner (wf := wf) (k := k) (by omega) (.ask f ss j)
    simp only [Tp.i, Tp.inner, List.map_nil] at h
    simp [f__law_tposts, iIn, iAnyEq, Tp.i, h, Tp.posts, sts]
  | .bnd t x s p, k, hk, hs => by
    obtain ⟨k, rfl⟩ := Nat.exists_eq_add_of_le' (show 1 ≤ k by omega)
    rw [vc__law_tposts _ rfl]
    simp only [Tp.deep, Tp.size] at hk hs
    have h := law_inner (wf := wf) (k := k) (by omega) (.bnd t x s p)
    have e1 := law_tposts p (k := k) (by omega) (by omega)
    have hb := bigN
    have hl := p.posts_le
    have b1 : p.posts.length ≤ 16777216 := by omega
    simp only [Tp.i, Tp.inner, List.map_cons, List.map_nil] at h
    cases t <;> simp only [bndw_true, bndw_false] at h <;> simp [f__law_tposts, iIn, iAnyEq, Tp.i, h, stepV, vSetTg, b1__law_tposts, e1, hb, b1, Tp.posts]
  | .ifs s p q, k, hk, hs => by
    obtain ⟨k, rfl⟩ := Nat.exists_eq_add_of_le' (show 1 ≤ k by omega)
    rw [vc__law_tposts _ rfl]
    simp only [Tp.deep, Tp.size] at hk hs
    have h := law_inner (wf := wf) (k := k) (by omega) (.ifs s p q)
    have e1 := law_tposts p (k := k) (by omega) (by omega)
    have e2 := law_tposts q (k := k) (by omega) (by omega)
    have hb := bigN
    have hl := p.posts_le
    have hl2 := q.posts_le
    have b1 : p.posts.length ≤ 16777216 := by omega
    have b2 : p.posts.length + q.posts.length ≤ 16777216 := by omega
    simp only [Tp.i, Tp.inner, List.map_cons, List.map_nil] at h
    simp [f__law_tposts, iIn, iAnyEq, Tp.i, h, stepV, vSetTg, b1__law_tposts, e1, e2, hb, b1, b2, Tp.posts]
  | .post j x p q, k, hk, hs => by
    obtain ⟨k, rfl⟩ := Nat.exists_eq_add_of_le' (show 1 ≤ k by omega)
    rw [vc__law_tposts _ rfl]
    simp only [Tp.deep, Tp.size] at hk hs
    have h := law_inner (wf := wf) (k := k) (by omega) (.post j x p q)
    have e1 := law_tposts p (k := k) (by omega) (by omega)
    have e2 := law_tposts q (k := k) (by omega) (by omega)
    have hb := bigN
    have hl := p.posts_le
    have hl2 := q.posts_le
    have b1 : 1 + p.posts.length ≤ 16777216 := by omega
    have b2 : p.posts.length + 1 + q.posts.length ≤ 16777216 := by omega
    simp only [Tp.i, Tp.inner, List.map_cons, List.map_nil] at h
    simp [f__law_tposts, iIn, iAnyEq, Tp.i, h, stepV, vSetTg, b1__law_tposts, e1, e2, hb, b1, b2, Tp.posts]
    simp [sts]
theorem law_called {d : List I × List I} {U : List Str} {f : Str → Str} (h : RD d U f) : ∀ (s : St) {k : Nat} (hk : s.deep + 2 ≤ k), s.ok U → (vctx VT wf k).call "_law_called" [.im s.i, .im (.dic d.1 d.2)] = .ok (.im (s.ren f).i) [.gone, .gone]
  | .num n, k, hk, ho => by
    obtain ⟨k, rfl⟩ := Nat.exists_eq_add_of_le' (show 1 ≤ k by omega)
    rw [vc__law_called _ rfl]
    simp [f__law_called, St.i, St.ren]
  | .nm x, k, hk, ho => by
    obtain ⟨k, rfl⟩ := Nat.exists_eq_add_of_le' (show 1 ≤ k by omega)
    rw [vc__law_called _ rfl]
    have e := h x ho
    simp only [vget] at e
    simp [f__law_called, St.i, St.ren, e]
  | .bin l a b, k, hk, ho => by
    obtain ⟨k, rfl⟩ := Nat.exists_eq_add_of_le' (show 2 ≤ k by omega)
    rw [vc__law_called _ rfl]
    simp only [St.deep] at hk
    have e1 := law_called h a (k := k + 1) (by omega) ho.1
    have e2 := law_called h b (k := k + 1) (by omega) ho.2
    have hb := bigN
    have e0 : (vctx VT wf (k + 1)).call "_law_parts" [.im (St.bin l a b).i] = .ok (.im (.tup [a.i, b.i])) [.gone] := by
      rw [vc__law_parts _ rfl]
      cases l <;> simp [f__law_parts, iIn, iAnyEq, St.i]
    simp only [St.i] at e0
    cases l <;> simp only [opw_true, opw_false] at e0 <;> simp [f__law_called, St.i, St.ren, e0, vlcStep, tgFree, tgFree.free1, vSetTg, l1__law_called, e1, e2, unTg, hb]
theorem law_tcalled {d h : List I × List I} {U V : List Str} {f g : Str → Str} (hd : RD d U f) (hh : RD h V g) (hdm : Str → Option Nat) : ∀ (p : Tp) {k : Nat} (hk : p.deep + 4 ≤ k) {A H : List Str}, p.ok hdm A H → p.small 1 → (∀ x ∈ A, x ∈ U) → (∀ x ∈ p.words, x ∈ U) → (∀ x ∈ H, x ∈ V) → (∀ x ∈ p.posts, x ∈ V) →
    (vctx VT wf k).call "_law_tcalled" [.im p.i, .im (.dic d.1 d.2), .im (.dic h.1 h.2)] = .ok (.im (p.ren f g).i) [.gone, .gone, .gone]
  | .give j s, k, hk, A, H, ho, hs, hA, hW, hH, hP => by
    obtain ⟨k, rfl⟩ := Nat.exists_eq_add_of_le' (show 1 ≤ k by omega)
    rw [vc__law_tcalled _ rfl]
    simp only [Tp.deep] at hk
    have h1 := law_inner (wf := wf) (k := k) (by omega) (.give j s)
    have h2 := law_simples (wf := wf) (k := k) (by omega) (.give j s)
    have e1 := law_called (wf := wf) hd s (k := k) (by have : s.deep ≤ 1 := hs; omega) (ho.2.mono hA)
    have e2 := hh j (hH j ho.1)
    simp only [vget] at e2
    simp only [Tp.i, Tp.inner, Tp.simples, List.map_cons, List.map_nil] at h1 h2
    simp [f__law_tcalled, Tp.i, Tp.ren, h1, h2, vlcStep, tgFree, tgFree.free1, vSetTg, l2__law_tcalled, e1, e2, unTg]
  | .ask e ss j, k, hk, A, H, ho, hs, hA, hW, hH, hP => by
    obtain ⟨k, rfl⟩ := Nat.exists_eq_add_of_le' (show 1 ≤ k by omega)
    rw [vc__law_tcalled _ rfl]
    simp only [Tp.deep] at hk
    have hb := bigN
    have h1 := law_inner (wf := wf) (k := k) (by omega) (.ask e ss j)
    have h2 := law_simples (wf := wf) (k := k) (by omega) (.ask e ss j)
    have e2 := hh j (hH j ho.2.2)
    simp only [vget] at e2
    have go := vlcGo_mapE (step := vlcStep (vCtx VT wf k []) l2__law_tcalled (.nm 4) .none) (E := [.im (Tp.ask e ss j).i, .im (.dic d.1 d.2), .im (.dic h.1 h.2), .im (.tup []), .gone, .gone]) St.i (fun s => (s.ren f).i) ss (by have := hs.1; omega) (by
      intro s hm
      have e1 := law_called (wf := wf) hd s (k := k) (by have := hs.2 s hm; omega) ((ho.2.1 s hm).mono hA)
      simp [vlcStep, tgFree, tgFree.free1, vSetTg, l2__law_tcalled, e1, unTg])
    simp only [Tp.i] at go
    simp only [Tp.i, Tp.inner, Tp.simples, List.map_cons, List.map_nil] at h1 h2
    simp [f__law_tcalled, Tp.i, Tp.ren, h1, h2, go, mkL_map, e2, Function.comp_def]
  | .bnd t x s p, k, hk, A, H, ho, hs, hA, hW, hH, hP => by
    obtain ⟨k, rfl⟩ := Nat.exists_eq_add_of_le' (show 1 ≤ k by omega)
    rw [vc__law_tcalled _ rfl]
    simp only [Tp.deep] at hk
    have hb := bigN
    have h1 := law_inner (wf := wf) (k := k) (by omega) (.bnd t x s p)
    have h2 := law_simples (wf := wf) (k := k) (by omega) (.bnd t x s p)
    have e1 := law_called (wf := wf) hd s (k := k) (by have : s.deep ≤ 1 := hs.1; omega) (ho.1.mono hA)
    have e2 := hd x (hW x (by simp [Tp.words]))
    simp only [vget] at e2
    have e3 := law_tcalled hd hh hdm p (k := k) (by omega) ho.2 hs.2 (fun y hy => by
      rcases List.mem_append.1 hy with z | z
      · exact hA y z
      · simp at z; subst z; exact hW y (by simp [Tp.words])) (fun y hy => hW y (by simp [Tp.words, hy])) hH hP
    simp only [Tp.i, Tp.inner, Tp.simples, List.map_cons, List.map_nil] at h1 h2
    cases t <;> simp only [bndw_true, bndw_false] at h1 h2 <;> simp [f__law_tcalled, Tp.i, Tp.ren, h1, h2, vlcStep, tgFree, tgFree.free1, vSetTg, l1__law_tcalled, l2__law_tcalled, e1, e2, e3, unTg, hb]
  | .ifs s p q, k, hk, A, H, ho, hs, hA, hW, hH, hP => by
    obtain ⟨k, rfl⟩ := Nat.exists_eq_add_of_le' (show 1 ≤ k by omega)
    rw [vc__law_tcalled _ rfl]
    simp only [Tp.deep] at hk
    have hb := bigN
    have h1 := law_inner (wf := wf) (k := k) (by omega) (.ifs s p q)
    have h2 := law_simples (wf := wf) (k := k) (by omega) (.ifs s p q)
    have e1 := law_called (wf := wf) hd s (k := k) (by have : s.deep ≤ 1 := hs.1; omega) (ho.1.mono hA)
    have e3 := law_tcalled hd hh hdm p (k := k) (by omega) ho.2.1 hs.2.1 hA (fun y hy => hW y (by simp [Tp.words, hy])) hH (fun y hy => hP y (by simp [Tp.posts, hy]))
    have e4 := law_tcalled hd hh hdm q (k := k) (by omega) ho.2.2 hs.2.2 hA (fun y hy => hW y (by simp [Tp.words, hy])) hH (fun y hy => hP y (by simp [Tp.posts, hy]))
    simp only [Tp.i, Tp.inner, Tp.simples, List.map_cons, List.map_nil] at h1 h2
    simp [f__law_tcalled, Tp.i, Tp.ren, h1, h2, vlcStep, tgFree, tgFree.free1, vSetTg, l1__law_tcalled, l2__law_tcalled, e1, e3, e4, unTg, hb]
  | .post j x p q, k, hk, A, H, ho, hs, hA, hW, hH, hP => by
    obtain ⟨k, rfl⟩ := Nat.exists_eq_add_of_le' (show 1 ≤ k by omega)
    rw [vc__law_tcalled _ rfl]
    simp only [Tp.deep] at hk
    have hb := bigN
    have h1 := law_inner (wf := wf) (k := k) (by omega) (.post j x p q)
    have h2 := law_simples (wf := wf) (k := k) (by omega) (.post j x p q)
    have e1 := hh j (hP j (by simp [Tp.posts]))
    have e2 := hd x (hW x (by simp [Tp.words]))
    simp only [vget] at e1 e2
    have e3 := law_tcalled hd hh hdm p (k := k) (by omega) ho.1 hs.1 (fun y hy => by
      rcases List.mem_append.1 hy with z | z
      · exact hA y z
      · simp at z; subst z; exact hW y (by simp [Tp.words])) (fun y hy => hW y (by simp [Tp.words, hy])) hH (fun y hy => hP y (by simp [Tp.posts, hy]))
    have e4 := law_tcalled hd hh hdm q (k := k) (by omega) ho.2 hs.2 hA (fun y hy => hW y (by simp [Tp.words, hy])) (fun y hy => by
      rcases List.mem_append.1 hy with z | z
      · exact hH y z
      · simp at z; subst z; exact hP y (by simp [Tp.posts])) (fun y hy => hP y (by simp [Tp.posts, hy]))
    simp only [Tp.i, Tp.inner, Tp.simples, List.map_cons, List.map_nil] at h1 h2
    simp [f__law_tcalled, Tp.i, Tp.ren, h1, h2, vlcStep, tgFree, tgFree.free1, vSetTg, l1__law_tcalled, l2__law_tcalled, e1, e2, e3, e4, unTg, hb]
theorem by_numbers {k : Nat} (hk : 1 ≤ k) (hw : 10 ≤ wf) {ws : List Str} (hn : ws.Nodup) (hl : ws.length ≤ 100000) : (vctx VT wf k).call "_law_by_numbers" [.im (.lst (sts ws))] = .ok (dicV (wbD ws)) [.gone] := by
  obtain ⟨k, rfl⟩ := Nat.exists_eq_add_of_le' hk
  rw [vc__law_by_numbers _ rfl]
  have hb := bigN
  have hL := vforGo_inv (step := stepV (vCtx VT wf k []) (.tup [3, 4]) b2__law_by_numbers) (fun xs E => ∃ (P R : List Str), xs = (R.zipIdx P.length).map (fun p => I.tup [.int (p.2 : Int), .str p.1]) ∧ ws = P ++ R ∧ E = [.im (.lst (sts ws)), .im (.str "abcdefghijklmnopqrstuvwxyz"), dicV (wbD P), .gone, .gone, .gone, .gone]) (by
    rintro x xs E ⟨P, R, hx, hP, rfl⟩
    cases R with
    | nil => simp at hx
    | cons y R =>
      rw [List.zipIdx_cons, List.map_cons] at hx
      obtain ⟨rfl, rfl⟩ := List.cons.inj hx
      have hy : y ∉ P := fun z => by
        rw [hP] at hn
        exact (List.nodup_append.1 hn).2.2 y z y (List.mem_cons_self ..) rfl
      have hPl : P.length < 100000 := by
        have : ws.length = P.length + (R.length + 1) := by rw [hP]; simp
        omega
      have hset := vSet_dicV (wbD P) (.str y) (.str (wof P.length)) rfl (by simp [wbD, rowD]; omega)
      have hsn : putV (.str y) (.str (wof P.length)) (wbD P) = wbD (P ++ [y]) := rowD_snoc (fun k => I.str (wof k)) hy
      rw [hsn] at hset
      refine ⟨[.im (.lst (sts ws)), .im (.str "abcdefghijklmnopqrstuvwxyz"), dicV (wbD (P ++ [y])), .gone, .gone, .gone, .gone], ?_, P ++ [y], R, by simp, by simp [hP], rfl⟩
      generalize hn0 : P.length = n at *
      have hW := whStep_inv (c := vCtx VT wf k []) (t := t1__law_by_numbers) (b := b1__law_by_numbers) (fun m E => ∃ (q : Nat) (F : List Nat), E = [.im (.lst (sts ws)), .im (.str "abcdefghijklmnopqrstuvwxyz"), dicV (wbD P), .im (.int n), .im (.str y), .im (.int q), .im (.str ⟨F.toArray⟩)] ∧ wofL n = wofP q ++ F ∧ q < 26 ^ (m + 1) ∧ F.length + m ≤ 10) (by
        rintro m E ⟨q, F, rfl, h1, h2, h3⟩
        by_cases hq : 26 ≤ q
        · have hq' : (25 : Int) < (q : Int) := by omega
          refine .inr ?_
          cases m with
          | zero => simp at h2; omega
          | succ m =>
            have hd : q / 26 < 26 ^ (m + 1) := by
              rw [Nat.pow_succ] at h2; exact Nat.div_lt_of_lt_mul (by rw [Nat.mul_comm]; exact h2)
            refine ⟨m, [.im (.lst (sts ws)), .im (.str "abcdefghijklmnopqrstuvwxyz"), dicV (wbD P), .im (.int n), .im (.str y), .im (.int (q / 26 : Nat)), .im (.str ⟨((97 + q / 26 % 26) :: F).toArray⟩)], rfl, by simp [t1__law_by_numbers, hq'], ?_, q / 26, (97 + q / 26 % 26) :: F, rfl, ?_, hd, by simp; omega⟩
            · have hi := abc_idx (j := q / 26 % 26) (Nat.mod_lt _ (by decide))
              have hc : ((q : Int) / 26) = ((q / 26 : Nat) : Int) := by omega
              have hc2 : (((q / 26 : Nat) : Int) % 26) = ((q / 26 % 26 : Nat) : Int) := by omega
              have hs : lett (q / 26 % 26) ++ (⟨F.toArray⟩ : Str) = ⟨((97 + q / 26 % 26) :: F).toArray⟩ := by rw [lett_eq, str_app]; rfl
              have hl : (lett (q / 26 % 26)).length + (⟨F.toArray⟩ : Str).length ≤ 16777216 := by
                have : (⟨F.toArray⟩ : Str).length = F.length := by simp [Str.length]
                have : (lett (q / 26 % 26)).length = 1 := rfl
                omega
              generalize q / 26 = z at *
              generalize hz : z % 26 = y at *
              simp [b1__law_by_numbers, hc, hc2, hi, hb, hl, hs, -iIdx_str]
            · rw [h1]
              have : wofP q = wofP (q / 26) ++ [97 + q / 26 % 26] := by
                rw [← wofP_eq, wofP, if_neg (by omega)]
              rw [this]; simp
        · have hq' : ¬ (25 : Int) < (q : Int) := by omega
          exact .inl (by simp [t1__law_by_numbers, hq']))
      obtain ⟨E', m, e, ⟨q, F, rfl, h1, h2, h3⟩, e2⟩ := hW 4 [.im (.lst (sts ws)), .im (.str "abcdefghijklmnopqrstuvwxyz"), dicV (wbD P), .im (.int n), .im (.str y), .im (.int n), .im (.str ⟨[97 + n % 26].toArray⟩)] wf (by omega) ⟨n, [97 + n % 26], rfl, wofP_eq n, by simp; omega, by simp⟩
      have hq : q < 26 := by
        by_cases hq : 26 ≤ q
        · have hq' : (25 : Int) < (q : Int) := by omega
          simp [t1__law_by_numbers, hq'] at e2
        · omega
      have hF : wofL n = F := by rw [h1, wofP, if_pos hq]; rfl
      have hi := abc_idx (j := n % 26) (Nat.mod_lt _ (by decide))
      have hc : ((n : Int) % 26) = ((n % 26 : Nat) : Int) := by omega
      have hs : (⟨F.toArray⟩ : Str) ++ Str.ofString "q" = wof n := by
        have : Str.ofString "q" = ⟨[113].toArray⟩ := by decide +kernel
        rw [this, str_app, wof, hF]
      have hl : (⟨F.toArray⟩ : Str).length + (Str.ofString "q").length ≤ 16777216 := by
        have : (⟨F.toArray⟩ : Str).length = F.length := by simp [Str.length]
        have : (Str.ofString "q").length = 1 := by decide +kernel
        omega
      rw [lett_eq] at hi
      generalize n % 26 = y2 at *
      simp [stepV, b2__law_by_numbers, vSetTg, vSetTg.setAll, hc, hi, vS_whl, e, hb, hl, hs, hset, -iIdx_str])
  obtain ⟨E', e, P, R, hx, hP, rfl⟩ := hL ((ws.zipIdx 0).map fun p => I.tup [.int (p.2 : Int), .str p.1]) [.im (.lst (sts ws)), .im (.str "abcdefghijklmnopqrstuvwxyz"), dicV (wbD []), .gone, .gone, .gone, .gone] ⟨[], ws, rfl, by simp, rfl⟩
  have hR : R = [] := by cases R with
    | nil => rfl
    | cons => simp at hx
  subst hR
  simp only [List.append_nil] at hP
  subst hP
  have he := iEnum_map ws 0
  have h0 : dicV (wbD []) = .obj (.dic []) [] := rfl
  rw [h0] at e
  simp [f__law_by_numbers, vPairs, iItems, he, e]
theorem law_anew {k : Nat} (hk : 110 ≤ k) (hw : 10 ≤ wf) (hdm : Str → Option Nat) (b : Tb) (hb6 : b.length ≤ 100) (h : ∀ e ∈ b, AnOk hdm e) : (vctx VT wf k).call "_law_anew" [.im (tbI b)] = .ok (.im (tbI (b.map anE))) [.gone] := by
  obtain ⟨k, rfl⟩ := Nat.exists_eq_add_of_le' hk
  rw [vc__law_anew _ rfl]
  have hb := bigN
  have go := vforGo_acc (step := stepV (vCtx VT wf (k + 109) []) (.tup [2, 3, 4]) b1__law_anew) (fun a => [.im (tbI b), lstV a, .gone, .gone, .gone, .gone, .gone, .gone]) teI (fun e => [teI (anE e)]) 16777216 b [] (by
    intro e he a ha
    have ok := h e he
    obtain ⟨f, N, p⟩ := e
    have hsz := ok.size
    have hdp := ok.deep
    have hN := ok.names
    simp only at hsz hdp hN
    have hwl := p.words_le
    have hpl := p.posts_le
    have e1 := law_twords (wf := wf) p (k := k + 109) (by omega) (by omega)
    have e2 := law_tposts (wf := wf) p (k := k + 109) (by omega) (by omega)
    have e3 := by_numbers (wf := wf) (k := k + 109) (by omega) hw ok.nw (by simp; omega)
    have e4 := by_numbers (wf := wf) (k := k + 109) (by omega) hw ok.np (by simp; omega)
    simp only [sts_append] at e3
    simp only at e4
    have hput := vSet_dicV (wbD p.posts) (.str "home") (.str "home") rfl (by simp [wbD, rowD]; omega)
    have e5 := law_tcalled (wf := wf) (wbD_rd (N ++ p.words)) (home_rd ok.nh) hdm p (k := k + 109) (by omega) ok.ok ok.small (fun x hx => List.mem_append_left _ hx) (fun x hx => List.mem_append_right _ hx) (fun x hx => by simp at hx; subst hx; exact List.mem_cons_self ..) (fun x hx => List.mem_cons_of_mem _ hx)
    have go : vlcGo (vlcStep (vCtx VT wf (k + 109) []) l1__law_anew (.nm 7) .none) (sts N) [] [.im (tbI b), lstV a, .im (.str f), .im (.tup (sts N)), .im p.i, dicV (wbD (N ++ p.words)), dicV (putV (.str "home") (.str "home") (wbD p.posts)), .gone] = .ok ((sts (N.map (fw (N ++ p.words)))).map .im) [.im (tbI b), lstV a, .im (.str f), .im (.tup (sts N)), .im p.i, dicV (wbD (N ++ p.words)), dicV (putV (.str "home") (.str "home") (wbD p.posts)), .gone] := by
      have go := vlcGo_mapE (step := vlcStep (vCtx VT wf (k + 109) []) l1__law_anew (.nm 7) .none) (E := [.im (tbI b), lstV a, .im (.str f), .im (.tup (sts N)), .im p.i, dicV (wbD (N ++ p.words)), dicV (putV (.str "home") (.str "home") (wbD p.posts)), .gone]) I.str (fun x => I.str (fw (N ++ p.words) x)) N (by omega) (by
        intro x hx
        have hm : x ∈ N ++ p.words := List.mem_append_left _ hx
        have hk := keyIx_sts x _ hm
        have hv : ((List.range (N ++ p.words).length).map fun k => I.str (wof k))[(N ++ p.words).idxOf x]? = some (.str (fw (N ++ p.words) x)) := by
          have hl := List.idxOf_lt_length_of_mem hm
          simp only [List.getElem?_map, List.getElem?_range hl, Option.map_some]; rfl
        simp only [wbD, rowD]
        simp [vlcStep, tgFree, tgFree.free1, vSetTg, l1__law_anew, hk, hv, unTg, -sts_append, -List.length_append])
      simp only [sts, List.map_map, Function.comp_def] at go ⊢
      exact go
    have hal : a.length < 16777216 := by simp at ha; omega
    have hnw : N.length + p.words.length ≤ 16777216 := by omega
    simp [stepV, b1__law_anew, vSetTg, vSetTg.setAll, teI, e1, e2, hb, hnw, e3, e4, hput, go, mkL_map, e5, hal, anE]) (by
    have h2 := flat_le (fun e : Te => [teI (anE e)]) 1 b (fun e he => by simp)
    simp at h2 ⊢; omega)
  have hm : (b.flatMap fun e => [teI (anE e)]) = (b.map anE).map teI := by
    clear go h hb6
    induction b with
    | nil => rfl
    | cons x b ih => simp [ih]
  rw [hm] at go
  simp only [List.nil_append, tbI] at go
  simp [f__law_anew, tbI, go]
end
end Wn
end
section
/-! Td: places in parts, plainly; what parts are told as, to be looked at for being alike. -/
namespace Wn
open PySem
/-! a place, and what is put there -/
def Tp.put (r : Tp) : Tp → List Nat → Tp
  | p, [] => r
  | .bnd t x s p, n :: ns => .bnd t x s (if n = 1 then r.put p ns else p)
  | .ifs s p q, n :: ns => .ifs s (if n = 1 then r.put p ns else p) (if n = 2 then r.put q ns else q)
  | .post j x p q, n :: ns => .post j x (if n = 0 then r.put p ns else p) (if n = 1 then r.put q ns else q)
  | p, _ :: _ => p
theorem nats_dv (ns : List Nat) : (I.tup (nats ns)).dv = some (.tup (ns.map fun (n : Nat) => DV.int (n : Int))) := by
  have h1 : I.dvs (nats ns) = some (ns.map fun (n : Nat) => DV.int (n : Int)) := dvs_map _ _ (fun _ => rfl) ns
  simp only [I.dv, h1, Option.map_some]
theorem nats_lists (ns : List Nat) : (I.tup (nats ns)).lists = 0 := by
  have h2 : I.listss (nats ns) ≤ 0 := lists_map (n := 0) _ (fun _ => by simp [I.lists]) ns
  simp only [I.lists]; omega
@[simp] theorem iEq_nats_nil (ns : List Nat) : iEq (.tup (nats ns)) (.tup []) = some ns.isEmpty := by
  have h := iEq_of (nats_dv ns) (nats_dv []) (by rw [nats_lists]; omega) (by rw [nats_lists]; omega) (by simp [DV.deep, DV.deepL])
  rw [nats_nil] at h
  rw [h]
  cases ns <;> simp
@[simp] theorem iEq_ncons (n : Int) (ns : List Nat) : iEq (.tup (.int n :: nats ns)) (.tup []) = some false := by
  have h1 : I.dvs (nats ns) = some (ns.map fun (n : Nat) => DV.int (n : Int)) := dvs_map _ _ (fun _ => rfl) ns
  have h2 := nats_lists ns
  simp only [I.lists] at h2
  rw [iEq_of (d := .tup (.int n :: ns.map fun (n : Nat) => DV.int (n : Int))) (e := .tup []) (by simp [I.dv, I.dvs, h1]) (by simp [I.dv, I.dvs]) (by simp only [I.lists, I.listss]; omega) (by simp [I.lists, I.listss]) (by simp [DV.deep, DV.deepL])]
  simp
theorem nats_cons (n : Nat) (ns : List Nat) : nats (n :: ns) = .int (n : Int) :: nats ns := rfl
/-- the part at a place, and the hand-ons around -/
def Tp.at : Tp → List Nat → List Str → Option (Tp × List Str)
  | p, [], H => some (p, H)
  | .bnd t x s p, n :: ns, H => if n = 1 then p.at ns H else none
  | .ifs s p q, n :: ns, H => if n = 1 then p.at ns H else if n = 2 then q.at ns H else none
  | .post j x p q, n :: ns, H => if n = 0 then p.at ns H else if n = 1 then q.at ns (H ++ [j]) else none
  | _, _ :: _, _ => none
theorem Tp.at_all : ∀ (p : Tp) (ns : List Nat), ∀ x ∈ p.all ns, ∀ H, ∃ ms H', x.1 = ns ++ ms ∧ p.at ms H = some (x.2, H ++ H')
  | .give _ _, ns, x, h, H => by simp [Tp.all] at h; subst h; exact ⟨[], [], by simp, by simp [Tp.at]⟩
  | .ask _ _ _, ns, x, h, H => by simp [Tp.all] at h; subst h; exact ⟨[], [], by simp, by simp [Tp.at]⟩
  | .bnd t y s p, ns, x, h, H => by
    simp only [Tp.all, List.mem_cons] at h
    rcases h with rfl | h
    · exact ⟨[], [], by simp, by simp [Tp.at]⟩
    · obtain ⟨ms, H', e1, e2⟩ := p.at_all _ x h H
      exact ⟨1 :: ms, H', by rw [e1]; simp, by simp [Tp.at, e2]⟩
  | .ifs s p q, ns, x, h, H => by
    simp only [Tp.all, List.mem_cons, List.mem_append] at h
    rcases h with rfl | h | h
    · exact ⟨[], [], by simp, by simp [Tp.at]⟩
    · obtain ⟨ms, H', e1, e2⟩ := p.at_all _ x h H
      exact ⟨1 :: ms, H', by rw [e1]; simp, by simp [Tp.at, e2]⟩
    · obtain ⟨ms, H', e1, e2⟩ := q.at_all _ x h H
      exact ⟨2 :: ms, H', by rw [e1]; simp, by simp [Tp.at, e2]⟩
  | .post j y p q, ns, x, h, H => by
    simp only [Tp.all, List.mem_cons, List.mem_append] at h
    rcases h with rfl | h | h
    · exact ⟨[], [], by simp, by simp [Tp.at]⟩
    · obtain ⟨ms, H', e1, e2⟩ := p.at_all _ x h H
      exact ⟨0 :: ms, H', by rw [e1]; simp, by simp [Tp.at, e2]⟩
    · obtain ⟨ms, H', e1, e2⟩ := q.at_all _ x h (H ++ [j])
      exact ⟨1 :: ms, j :: H', by rw [e1]; simp, by simp [Tp.at, e2]⟩
theorem Tp.put_le (r : Tp) : ∀ (p : Tp) (ns : List Nat) (H : List Str) {r0 : Tp} {H' : List Str}, p.at ns H = some (r0, H') → r.size ≤ r0.size → r.deep ≤ r0.deep → (r.put p ns).size ≤ p.size ∧ (r.put p ns).deep ≤ p.deep
  | p, [], H, r0, H', h, h1, h2 => by
    cases p <;> (simp only [Tp.at, Option.some.injEq, Prod.mk.injEq] at h; obtain ⟨rfl, _⟩ := h; exact ⟨h1, h2⟩)
  | .give _ _, _ :: _, H, r0, H', h, h1, h2 => by simp [Tp.at] at h
  | .ask _ _ _, _ :: _, H, r0, H', h, h1, h2 => by simp [Tp.at] at h
  | .bnd t x s p, n :: ns, H, r0, H', h, h1, h2 => by
    simp only [Tp.at] at h
    split at h
    · rename_i hn
      have := Tp.put_le r p ns H h h1 h2
      simp [Tp.put, hn, Tp.size, Tp.deep]; omega
    · cases h
  | .ifs s p q, n :: ns, H, r0, H', h, h1, h2 => by
    simp only [Tp.at] at h
    split at h
    · rename_i hn
      have := Tp.put_le r p ns H h h1 h2
      simp [Tp.put, hn, Tp.size, Tp.deep]; omega
    · split at h
      · rename_i hn hm
        have := Tp.put_le r q ns H h h1 h2
        simp [Tp.put, hm, Tp.size, Tp.deep]; omega
      · cases h
  | .post j x p q, n :: ns, H, r0, H', h, h1, h2 => by
    simp only [Tp.at] at h
    split at h
    · rename_i hn
      have := Tp.put_le r p ns H h h1 h2
      simp [Tp.put, hn, Tp.size, Tp.deep]; omega
    · split at h
      · rename_i hn hm
        have := Tp.put_le r q ns _ h h1 h2
        simp [Tp.put, hm, Tp.size, Tp.deep]; omega
      · cases h
theorem drop_succ {α : Type} {l : List α} {c : Nat} {x : α} {r : List α} (h : l.drop c = x :: r) : l.drop (c + 1) = r ∧ c < l.length ∧ x ∈ l := by
  have h1 : c < l.length := by
    rcases Nat.lt_or_ge c l.length with h1 | h1
    · exact h1
    · rw [List.drop_eq_nil_of_le h1] at h; cases h
  rw [List.drop_eq_getElem_cons h1] at h
  obtain ⟨rfl, rfl⟩ := List.cons.inj h
  exact ⟨rfl, h1, List.getElem_mem h1⟩
@[simp] theorem iEq_all_nil {α : Type} (f : α → I) (xs : List α) (d : α → DV) (h1 : ∀ a, (f a).dv = some (d a)) (h2 : ∀ a, (f a).lists ≤ 2) : iEq (.lst (xs.map f)) (.lst []) = some xs.isEmpty := by
  have h3 := lists_map f h2 xs
  have h := iEq_of (a := .lst (xs.map f)) (b := .lst []) (d := .lst (xs.map d)) (e := .lst []) (by simp [I.dv, dvs_map f d h1]) (by simp [I.dv, I.dvs]) (by simp only [I.lists]; omega) (by simp [I.lists, I.listss]) (by simp [DV.deep, DV.deepL])
  rw [h]
  cases xs <;> simp
def Tp.dv : Tp → DV
  | .give j s => .tup [.str "give", .str j, s.dv]
  | .ask f ss j => .tup [.str "ask", .str f, .tup (ss.map St.dv), .str j]
  | .bnd t x s p => .tup [.str (bndw t), .str x, s.dv, p.dv]
  | .ifs s p q => .tup [.str "if", s.dv, p.dv, q.dv]
  | .post j x p q => .tup [.str "post", .str j, .str x, p.dv, q.dv]
theorem Tp.i_dv : ∀ p : Tp, p.i.dv = some p.dv
  | .give j s => by simp [Tp.i, I.dv, I.dvs, St.i_dv, Tp.dv]
  | .ask f ss j => by simp [Tp.i, I.dv, I.dvs, dvs_map St.i St.dv St.i_dv, Tp.dv]
  | .bnd t x s p => by simp [Tp.i, I.dv, I.dvs, St.i_dv, Tp.i_dv p, Tp.dv]
  | .ifs s p q => by simp [Tp.i, I.dv, I.dvs, St.i_dv, Tp.i_dv p, Tp.i_dv q, Tp.dv]
  | .post j x p q => by simp [Tp.i, I.dv, I.dvs, Tp.i_dv p, Tp.i_dv q, Tp.dv]
theorem Tp.i_lists : ∀ p : Tp, p.i.lists = 0
  | .give j s => by simp [Tp.i, I.lists, I.listss, St.i_lists]
  | .ask f ss j => by
    have := lists_map St.i (n := 0) (fun a => by rw [St.i_lists]; omega) ss
    simp [Tp.i, I.lists, I.listss]; omega
  | .bnd t x s p => by simp [Tp.i, I.lists, I.listss, St.i_lists, Tp.i_lists p]
  | .ifs s p q => by simp [Tp.i, I.lists, I.listss, St.i_lists, Tp.i_lists p, Tp.i_lists q]
  | .post j x p q => by simp [Tp.i, I.lists, I.listss, Tp.i_lists p, Tp.i_lists q]
def Tp.isPost : Tp → Bool
  | .post _ _ _ _ => true
  | _ => false
theorem all_dv (x : List Nat × Tp) : (allI [] x).dv = some (.tup [.tup (x.1.map fun (n : Nat) => DV.int (n : Int)), x.2.dv]) := by
  have := nats_dv x.1
  simp only [allI, plcI, List.nil_append, I.dv, I.dvs, Tp.i_dv, Option.map_some] at this ⊢
  cases h : I.dvs (nats x.1) with
  | none => rw [h] at this; cases this
  | some ds => rw [h] at this; simp at this; simp [this]
theorem all_lists (x : List Nat × Tp) : (allI [] x).lists ≤ 2 := by
  have := nats_lists x.1
  simp only [I.lists] at this
  simp [allI, plcI, I.lists, I.listss, this, Tp.i_lists]
theorem Tp.at_len : ∀ (p : Tp) (ns : List Nat) (H : List Str) {r : Tp} {H' : List Str}, p.at ns H = some (r, H') → H'.length ≤ H.length + ns.length := by
  intro p
  induction p with
  | give j s => intro ns H r H' h; cases ns <;> simp [Tp.at] at h; simp [h.2]
  | ask f ss j => intro ns H r H' h; cases ns <;> simp [Tp.at] at h; simp [h.2]
  | bnd t x s p ih =>
    intro ns H r H' h
    cases ns with
    | nil => simp [Tp.at] at h; simp [h.2]
    | cons n ns => simp only [Tp.at] at h; split at h
                   · have := ih ns H h; simp; omega
                   · cases h
  | ifs s p q ih1 ih2 =>
    intro ns H r H' h
    cases ns with
    | nil => simp [Tp.at] at h; simp [h.2]
    | cons n ns => simp only [Tp.at] at h; split at h
                   · have := ih1 ns H h; simp; omega
                   · split at h
                     · have := ih2 ns H h; simp; omega
                     · cases h
  | post j x p q ih1 ih2 =>
    intro ns H r H' h
    cases ns with
    | nil => simp [Tp.at] at h; simp [h.2]
    | cons n ns => simp only [Tp.at] at h; split at h
                   · have := ih1 ns H h; simp; omega
                   · split at h
                     · have := ih2 ns _ h; simp at this ⊢; omega
                     · cases h
end Wn
end
section
/-! T8: the law's places in turned parts, and what is put there. Needs _law_inner, _law_simples, _law_tplaces, _law_tput. -/
namespace Wn
open PySem
section
variable {wf : Nat}
theorem law_tplaces : ∀ (p : Tp) {k : Nat} (hk : p.deep + 2 ≤ k) (hs : p.size ≤ 100000) (pre : List I) (ns : List Nat) (hn : pre.length + ns.length + p.deep ≤ 100000), (vctx VT wf k).call "_law_tplaces" [.im p.i, .im (plcI pre ns)] = .ok (lstV ((p.all ns).map (allI pre))) [.gone, .gone]
  | .give j s, k, hk, hs, pre, ns, hn => by
    obtain ⟨k, rfl⟩ := Nat.exists_eq_add_of_le' (show 1 ≤ k by omega)
    rw [vc__law_tplaces _ rfl]
    simp only [Tp.deep] at hk
    have h := law_inner (wf := wf) (k := k) (by omega) (.give j s)
    have h2 := law_simples (wf := wf) (k := k) (by omega) (.give j s)
    simp only [Tp.i, Tp.inner, Tp.simples, List.map_cons, List.map_nil] at h h2
    simp [f__law_tplaces, Tp.i, h, h2, Tp.all, allI, iItems, iEnum]
  | .ask f ss j, k, hk, hs, pre, ns, hn => by
    obtain ⟨k, rfl⟩ := Nat.exists_eq_add_of_le' (show 1 ≤ k by omega)
    rw [vc__law_tplaces _ rfl]
    simp only [Tp.deep] at hk
    have h := law_inner (wf := wf) (k := k) (by omega) (.ask f ss j)
    have h2 := law_simples (wf := wf) (k := k) (by omega) (.ask f ss j)
    simp only [Tp.i, Tp.inner, Tp.simples, List.map_cons, List.map_nil] at h h2
    simp [f__law_tplaces, Tp.i, h, h2, Tp.all, allI, iItems, iEnum]
  | .bnd t x s p, k, hk, hs, pre, ns, hn => by
    obtain ⟨k, rfl⟩ := Nat.exists_eq_add_of_le' (show 1 ≤ k by omega)
    rw [vc__law_tplaces _ rfl]
    simp only [Tp.deep, Tp.size] at hk hs hn
    have h := law_inner (wf := wf) (k := k) (by omega) (.bnd t x s p)
    have h2 := law_simples (wf := wf) (k := k) (by omega) (.bnd t x s p)
    have e1 := law_tplaces p (k := k) (by omega) (by omega) pre (ns ++ [1]) (by simp; omega)
    have hl := p.all_len (ns ++ [1])
    have hb := bigN
    have b1 : pre.length + ns.length + 1 ≤ 16777216 := by omega
    have b2 : 1 + p.size ≤ 16777216 := by omega
    simp only [Tp.i, Tp.inner, Tp.simples, List.map_cons, List.map_nil] at h h2
    simp only [plcI, nats_append, nats_one, Int.cast_ofNat_Int] at e1
    cases t <;> simp only [bndw_true, bndw_false] at h h2 <;> simp [f__law_tplaces, Tp.i, h, h2, iItems, iEnum, stepV, vSetTg, vSetTg.setAll, b1__law_tplaces, plcI, hb, b1, b2, hl, e1, Tp.all, allI]
  | .ifs s p q, k, hk, hs, pre, ns, hn => by
    obtain ⟨k, rfl⟩ := Nat.exists_eq_add_of_le' (show 1 ≤ k by omega)
    rw [vc__law_tplaces _ rfl]
    simp only [Tp.deep, Tp.size] at hk hs hn
    have h := law_inner (wf := wf) (k := k) (by omega) (.ifs s p q)
    have h2 := law_simples (wf := wf) (k := k) (by omega) (.ifs s p q)
    have e1 := law_tplaces p (k := k) (by omega) (by omega) pre (ns ++ [1]) (by simp; omega)
    have e2 := law_tplaces q (k := k) (by omega) (by omega) pre (ns ++ [2]) (by simp; omega)
    have hl := p.all_len (ns ++ [1])
    have hl2 := q.all_len (ns ++ [2])
    have hb := bigN
    have b1 : pre.length + ns.length + 1 ≤ 16777216 := by omega
    have b2 : 1 + p.size ≤ 16777216 := by omega
    have b3 : p.size + 1 + q.size ≤ 16777216 := by omega
    simp only [Tp.i, Tp.inner, Tp.simples, List.map_cons, List.map_nil] at h h2
    simp only [plcI, nats_append, nats_one, Int.cast_ofNat_Int] at e1 e2
    simp [f__law_tplaces, Tp.i, h, h2, iItems, iEnum, stepV, vSetTg, vSetTg.setAll, b1__law_tplaces, plcI, hb, b1, b2, b3, hl, hl2, e1, e2, Tp.all, allI]
  | .post j x p q, k, hk, hs, pre, ns, hn => by
    obtain ⟨k, rfl⟩ := Nat.exists_eq_add_of_le' (show 1 ≤ k by omega)
    rw [vc__law_tplaces _ rfl]
    simp only [Tp.deep, Tp.size] at hk hs hn
    have h := law_inner (wf := wf) (k := k) (by omega) (.post j x p q)
    have h2 := law_simples (wf := wf) (k := k) (by omega) (.post j x p q)
    have e1 := law_tplaces p (k := k) (by omega) (by omega) pre (ns ++ [0]) (by simp; omega)
    have e2 := law_tplaces q (k := k) (by omega) (by omega) pre (ns ++ [1]) (by simp; omega)
    have hl := p.all_len (ns ++ [0])
    have hl2 := q.all_len (ns ++ [1])
    have hb := bigN
    have b1 : pre.length + ns.length + 1 ≤ 16777216 := by omega
    have b2 : 1 + p.size ≤ 16777216 := by omega
    have b3 : p.size + 1 + q.size ≤ 16777216 := by omega
    simp only [Tp.i, Tp.inner, Tp.simples, List.map_cons, List.map_nil] at h h2
    simp only [plcI, nats_append, nats_one, Int.cast_ofNat_Int] at e1 e2
    simp [f__law_tplaces, Tp.i, h, h2, iItems, iEnum, stepV, vSetTg, vSetTg.setAll, b1__law_tplaces, plcI, hb, b1, b2, b3, hl, hl2, e1, e2, Tp.all, allI]
theorem law_tput (r : Tp) : ∀ (p : Tp) {k : Nat} (hk : p.deep + 2 ≤ k) (ns : List Nat) {H : List Str} {r0 : Tp} {H' : List Str}, p.at ns H = some (r0, H') → (vctx VT wf k).call "_law_tput" [.im p.i, .im (.tup (nats ns)), .im r.i] = .ok (.im (r.put p ns).i) [.gone, .gone, .gone]
  | p, k, hk, [], H, r0, H', ha => by
    obtain ⟨k, rfl⟩ := Nat.exists_eq_add_of_le' (show 1 ≤ k by omega)
    rw [vc__law_tput _ rfl]
    have h0 := iEq_nats_nil []
    simp at h0
    cases p <;> simp [f__law_tput, Tp.put, h0]
  | .give j s, k, hk, n :: ns, H, r0, H', ha => by simp [Tp.at] at ha
  | .ask f ss j, k, hk, n :: ns, H, r0, H', ha => by simp [Tp.at] at ha
  | .bnd t x s p, k, hk, n :: ns, H, r0, H', ha => by
    obtain ⟨k, rfl⟩ := Nat.exists_eq_add_of_le' (show 1 ≤ k by omega)
    rw [vc__law_tput _ rfl]
    simp only [Tp.deep] at hk
    have h := law_inner (wf := wf) (k := k) (by omega) (.bnd t x s p)
    have h2 := law_simples (wf := wf) (k := k) (by omega) (.bnd t x s p)
    have hb := bigN
    simp only [Tp.i, Tp.inner, Tp.simples, List.map_cons, List.map_nil] at h h2
    rw [nats_cons]
    simp only [Tp.at] at ha
    split at ha
    · rename_i hn
      subst hn
      have e1 := law_tput r p (k := k) (by omega) ns ha
      cases t <;> simp only [bndw_true, bndw_false] at h h2 <;> simp [f__law_tput, Tp.put, Tp.i, h, h2, iItems, e1, hb]
    · cases ha
  | .ifs s p q, k, hk, n :: ns, H, r0, H', ha => by
    obtain ⟨k, rfl⟩ := Nat.exists_eq_add_of_le' (show 1 ≤ k by omega)
    rw [vc__law_tput _ rfl]
    simp only [Tp.deep] at hk
    have h := law_inner (wf := wf) (k := k) (by omega) (.ifs s p q)
    have h2 := law_simples (wf := wf) (k := k) (by omega) (.ifs s p q)
    have hb := bigN
    simp only [Tp.i, Tp.inner, Tp.simples, List.map_cons, List.map_nil] at h h2
    rw [nats_cons]
    simp only [Tp.at] at ha
    split at ha
    · rename_i hn
      subst hn
      have e1 := law_tput r p (k := k) (by omega) ns ha
      simp [f__law_tput, Tp.put, Tp.i, h, h2, iItems, e1, hb]
    · split at ha
      · rename_i hn hm
        subst hm
        have e1 := law_tput r q (k := k) (by omega) ns ha
        simp [f__law_tput, Tp.put, Tp.i, h, h2, iItems, e1, hb]
      · cases ha
  | .post j x p q, k, hk, n :: ns, H, r0, H', ha => by
    obtain ⟨k, rfl⟩ := Nat.exists_eq_add_of_le' (show 1 ≤ k by omega)
    rw [vc__law_tput _ rfl]
    simp only [Tp.deep] at hk
    have h := law_inner (wf := wf) (k := k) (by omega) (.post j x p q)
    have h2 := law_simples (wf := wf) (k := k) (by omega) (.post j x p q)
    have hb := bigN
    simp only [Tp.i, Tp.inner, Tp.simples, List.map_cons, List.map_nil] at h h2
    rw [nats_cons]
    simp only [Tp.at] at ha
    split at ha
    · rename_i hn
      subst hn
      have e1 := law_tput r p (k := k) (by omega) ns ha
      simp [f__law_tput, Tp.put, Tp.i, h, h2, iItems, e1, hb]
    · split at ha
      · rename_i hn hm
        subst hm
        have e1 := law_tput r q (k := k) (by omega) ns ha
        simp [f__law_tput, Tp.put, Tp.i, h, h2, iItems, e1, hb]
      · cases ha
end
end Wn
end
section
/-! Tr: told anew, plainly: once more the same. -/
namespace Wn
open PySem
theorem St.ren_deep (f : Str → Str) : ∀ s : St, (s.ren f).deep = s.deep
  | .num _ => rfl
  | .nm _ => rfl
  | .bin _ a b => by simp [St.ren, St.deep, a.ren_deep f, b.ren_deep f]
theorem St.ren_ok {f : Str → Str} {A : List Str} : ∀ {s : St}, s.ok A → (s.ren f).ok (A.map f)
  | .num _, h => h
  | .nm x, h => List.mem_map.2 ⟨x, h, rfl⟩
  | .bin _ a b, h => ⟨St.ren_ok h.1, St.ren_ok h.2⟩
theorem St.ren_congr {f g : Str → Str} {A : List Str} (h : ∀ x ∈ A, f x = g x) : ∀ {s : St}, s.ok A → s.ren f = s.ren g
  | .num _, _ => rfl
  | .nm x, o => by simp only [St.ren]; rw [h x o]
  | .bin _ a b, o => by simp only [St.ren]; rw [St.ren_congr h o.1, St.ren_congr h o.2]
theorem St.ren_ren (f g : Str → Str) : ∀ s : St, (s.ren f).ren g = s.ren fun x => g (f x)
  | .num _ => rfl
  | .nm _ => rfl
  | .bin _ a b => by simp [St.ren, a.ren_ren f g, b.ren_ren f g]
section
variable {f g : Str → Str}
theorem Tp.ren_words : ∀ p : Tp, (p.ren f g).words = p.words.map f
  | .give _ _ => rfl
  | .ask _ _ _ => rfl
  | .bnd _ _ _ p => by simp [Tp.ren, Tp.words, p.ren_words]
  | .ifs _ p q => by simp [Tp.ren, Tp.words, p.ren_words, q.ren_words]
  | .post _ _ p q => by simp [Tp.ren, Tp.words, p.ren_words, q.ren_words]
theorem Tp.ren_posts : ∀ p : Tp, (p.ren f g).posts = p.posts.map g
  | .give _ _ => rfl
  | .ask _ _ _ => rfl
  | .bnd _ _ _ p => by simp [Tp.ren, Tp.posts, p.ren_posts]
  | .ifs _ p q => by simp [Tp.ren, Tp.posts, p.ren_posts, q.ren_posts]
  | .post _ _ p q => by simp [Tp.ren, Tp.posts, p.ren_posts, q.ren_posts]
theorem Tp.ren_size : ∀ p : Tp, (p.ren f g).size = p.size ∧ (p.ren f g).deep = p.deep
  | .give _ _ => ⟨rfl, rfl⟩
  | .ask _ _ _ => ⟨rfl, rfl⟩
  | .bnd _ _ _ p => by have := p.ren_size; simp [Tp.ren, Tp.size, Tp.deep, this]
  | .ifs _ p q => by have := p.ren_size; have := q.ren_size; simp_all [Tp.ren, Tp.size, Tp.deep]
  | .post _ _ p q => by have := p.ren_size; have := q.ren_size; simp_all [Tp.ren, Tp.size, Tp.deep]
theorem Tp.ren_small {n : Nat} : ∀ {p : Tp}, p.small n → (p.ren f g).small n
  | .give _ s, h => by rw [Tp.ren, Tp.small, s.ren_deep]; exact h
  | .ask _ ss _, h => by
    rw [Tp.ren, Tp.small]
    refine ⟨by simpa using h.1, fun s hs => ?_⟩
    obtain ⟨t, ht, rfl⟩ := List.mem_map.1 hs
    rw [t.ren_deep]; exact h.2 t ht
  | .bnd _ _ s p, h => ⟨by rw [s.ren_deep]; exact h.1, Tp.ren_small h.2⟩
  | .ifs s p q, h => ⟨by rw [s.ren_deep]; exact h.1, Tp.ren_small h.2.1, Tp.ren_small h.2.2⟩
  | .post _ _ p q, h => ⟨Tp.ren_small h.1, Tp.ren_small h.2⟩
theorem Tp.ren_ok {hdm : Str → Option Nat} : ∀ {p : Tp} {A H : List Str}, p.ok hdm A H → (p.ren f g).ok hdm (A.map f) (H.map g)
  | .give j s, A, H, h => ⟨List.mem_map.2 ⟨j, h.1, rfl⟩, St.ren_ok h.2⟩
  | .ask e ss j, A, H, h => ⟨by simpa using h.1, fun s hs => by
      obtain ⟨t, ht, rfl⟩ := List.mem_map.1 hs
      exact St.ren_ok (h.2.1 t ht), List.mem_map.2 ⟨j, h.2.2, rfl⟩⟩
  | .bnd _ x s p, A, H, h => ⟨St.ren_ok h.1, by have := Tp.ren_ok h.2; simpa using this⟩
  | .ifs s p q, A, H, h => ⟨St.ren_ok h.1, Tp.ren_ok h.2.1, Tp.ren_ok h.2.2⟩
  | .post j x p q, A, H, h => ⟨by have := Tp.ren_ok h.1; simpa using this, by have := Tp.ren_ok h.2; simpa using this⟩
end
theorem Tp.ren_ren (f g f' g' : Str → Str) : ∀ p : Tp, (p.ren f g).ren f' g' = p.ren (fun x => f' (f x)) (fun x => g' (g x))
  | .give _ s => by simp [Tp.ren, s.ren_ren]
  | .ask _ ss _ => by simp [Tp.ren, St.ren_ren]
  | .bnd _ _ s p => by simp [Tp.ren, s.ren_ren, p.ren_ren f g f' g']
  | .ifs s p q => by simp [Tp.ren, s.ren_ren, p.ren_ren f g f' g', q.ren_ren f g f' g']
  | .post _ _ p q => by simp [Tp.ren, p.ren_ren f g f' g', q.ren_ren f g f' g']
theorem Tp.ren_congr {hdm : Str → Option Nat} {f f' g g' : Str → Str} : ∀ {p : Tp} {A H : List Str}, p.ok hdm A H → (∀ x ∈ A, f x = f' x) → (∀ x ∈ p.words, f x = f' x) → (∀ x ∈ H, g x = g' x) → (∀ x ∈ p.posts, g x = g' x) → p.ren f g = p.ren f' g'
  | .give j s, A, H, o, hA, hW, hH, hP => by simp only [Tp.ren]; rw [hH j o.1, St.ren_congr hA o.2]
  | .ask e ss j, A, H, o, hA, hW, hH, hP => by
    simp only [Tp.ren]; rw [hH j o.2.2]
    congr 1
    exact List.map_congr_left fun s hs => St.ren_congr hA (o.2.1 s hs)
  | .bnd t x s p, A, H, o, hA, hW, hH, hP => by
    simp only [Tp.ren]
    have hx : f x = f' x := hW x (by simp [Tp.words])
    rw [hx, St.ren_congr hA o.1, Tp.ren_congr o.2 (fun y hy => by
      rcases List.mem_append.1 hy with z | z
      · exact hA y z
      · simp at z; subst z; exact hx) (fun y hy => hW y (by simp [Tp.words, hy])) hH hP]
  | .ifs s p q, A, H, o, hA, hW, hH, hP => by
    simp only [Tp.ren]
    rw [St.ren_congr hA o.1, Tp.ren_congr o.2.1 hA (fun y hy => hW y (by simp [Tp.words, hy])) hH (fun y hy => hP y (by simp [Tp.posts, hy])), Tp.ren_congr o.2.2 hA (fun y hy => hW y (by simp [Tp.words, hy])) hH (fun y hy => hP y (by simp [Tp.posts, hy]))]
  | .post j x p q, A, H, o, hA, hW, hH, hP => by
    simp only [Tp.ren]
    have hx : f x = f' x := hW x (by simp [Tp.words])
    have hj : g j = g' j := hP j (by simp [Tp.posts])
    rw [hx, hj, Tp.ren_congr o.1 (fun y hy => by
      rcases List.mem_append.1 hy with z | z
      · exact hA y z
      · simp at z; subst z; exact hx) (fun y hy => hW y (by simp [Tp.words, hy])) hH (fun y hy => hP y (by simp [Tp.posts, hy])), Tp.ren_congr o.2 hA (fun y hy => hW y (by simp [Tp.words, hy])) (fun y hy => by
      rcases List.mem_append.1 hy with z | z
      · exact hH y z
      · simp at z; subst z; exact hj) (fun y hy => hP y (by simp [Tp.posts, hy]))]
/-! words by their numbers -/
theorem idxOf_inj {U : List Str} {x y : Str} (hx : x ∈ U) (hy : y ∈ U) (h : U.idxOf x = U.idxOf y) : x = y := by
  have h1 := List.getElem_idxOf (List.idxOf_lt_length_of_mem hx)
  have h2 := List.getElem_idxOf (List.idxOf_lt_length_of_mem hy)
  rw [← h1, ← h2]; congr 1
theorem fw_inj {U : List Str} {x y : Str} (hx : x ∈ U) (hy : y ∈ U) (h : fw U x = fw U y) : x = y := idxOf_inj hx hy (wof_inj h)
theorem map_nodup {U : List Str} {f : Str → Str} : ∀ {V : List Str}, (∀ x ∈ V, ∀ y ∈ V, f x = f y → x = y) → V.Nodup → (V.map f).Nodup
  | [], _, _ => by simp
  | v :: V, h, n => by
    obtain ⟨n1, n2⟩ := List.nodup_cons.1 n
    refine List.nodup_cons.2 ⟨fun z => ?_, map_nodup (U := U) (fun x hx y hy => h x (List.mem_cons_of_mem _ hx) y (List.mem_cons_of_mem _ hy)) n2⟩
    obtain ⟨w, hw, e⟩ := List.mem_map.1 z
    have := h w (List.mem_cons_of_mem _ hw) v (List.mem_cons_self ..) e
    subst this; exact n1 hw
theorem idxOf_map {f : Str → Str} {x : Str} : ∀ {V : List Str}, x ∈ V → (∀ y ∈ V, f y = f x → y = x) → (V.map f).idxOf (f x) = V.idxOf x
  | v :: V, hx, h => by
    rw [List.map_cons, List.idxOf_cons, List.idxOf_cons]
    by_cases e : v = x
    · subst e; simp
    · have h1 : (v == x) = false := by simpa using e
      have h2 : (f v == f x) = false := by
        simp only [beq_eq_false_iff_ne]; intro z; exact e (h v (List.mem_cons_self ..) z)
      have hx : x ∈ V := by simpa [Ne.symm e] using hx
      rw [h1, h2, idxOf_map hx fun y hy => h y (List.mem_cons_of_mem _ hy)]
theorem fw_again {U : List Str} {x : Str} (hx : x ∈ U) : fw (U.map (fw U)) (fw U x) = fw U x := by
  show wof _ = wof _
  rw [idxOf_map hx fun y hy h => fw_inj hy hx h]
theorem wof_home (k : Nat) : wof k ≠ "home" := by
  intro h
  have hc : (wofL k ++ [113]).getLast? = (("home" : Str).cps.toList).getLast? := by rw [← h]; simp [wof]
  have h2 : (("home" : Str).cps.toList).getLast? = some 101 := by decide +kernel
  rw [h2] at hc; simp at hc
theorem anE_ok {hdm : Str → Option Nat} {e : Te} (h : AnOk hdm e) : AnOk hdm (anE e) := by
  obtain ⟨n, N, p⟩ := e
  have hs := p.ren_size (f := fw (N ++ p.words)) (g := fh p.posts)
  have hfp : p.posts.map (fh p.posts) = p.posts.map (fw p.posts) := List.map_congr_left fun x hx => by
    rw [fh, if_neg]; intro z; subst z; exact h.nh hx
  refine ⟨?_, ?_, ?_, ?_, Tp.ren_small h.small, by rw [anE]; show (p.ren _ _).size ≤ _; rw [hs.1]; exact h.size, by rw [anE]; show (p.ren _ _).deep ≤ _; rw [hs.2]; exact h.deep, by simpa [anE] using h.names⟩
  · simp only [anE, Tp.ren_words, ← List.map_append]
    exact map_nodup (U := N ++ p.words) (fun x hx y hy e => fw_inj hx hy e) h.nw
  · simp only [anE, Tp.ren_posts, hfp]
    exact map_nodup (U := p.posts) (fun x hx y hy e => fw_inj hx hy e) h.np
  · simp only [anE, Tp.ren_posts, hfp]
    intro z
    obtain ⟨x, _, e⟩ := List.mem_map.1 z
    exact wof_home _ e
  · have := Tp.ren_ok (f := fw (N ++ p.words)) (g := fh p.posts) h.ok
    simpa [anE, fh] using this
theorem anE_again {hdm : Str → Option Nat} {e : Te} (h : AnOk hdm e) : anE (anE e) = anE e := by
  obtain ⟨n, N, p⟩ := e
  have hfp : p.posts.map (fh p.posts) = p.posts.map (fw p.posts) := List.map_congr_left fun x hx => by
    rw [fh, if_neg]; intro z; subst z; exact h.nh hx
  have hw : ∀ x ∈ N ++ p.words, fw ((N ++ p.words).map (fw (N ++ p.words))) (fw (N ++ p.words) x) = fw (N ++ p.words) x := fun x hx => fw_again hx
  simp only [anE, Tp.ren_words, Tp.ren_posts, ← List.map_append, Tp.ren_ren, hfp]
  congr 2
  · rw [List.map_map]
    exact List.map_congr_left fun x hx => hw x (List.mem_append_left _ hx)
  · refine Tp.ren_congr h.ok (fun x hx => hw x (List.mem_append_left _ hx)) (fun x hx => hw x (List.mem_append_right _ hx)) (fun x hx => ?_) (fun x hx => ?_)
    · simp at hx; subst hx; simp [fh]
    · have hx1 : x ≠ "home" := by rintro rfl; exact h.nh hx
      have e1 : fh p.posts x = fw p.posts x := by rw [fh, if_neg hx1]
      have e2 : fw p.posts x ≠ "home" := wof_home _
      rw [e1, fh, if_neg e2]
      exact fw_again hx
/-! being alike -/
def teD (e : Te) : DV := .tup [.str e.1, .tup (e.2.1.map .str), e.2.2.dv]
theorem teI_dv (e : Te) : (teI e).dv = some (teD e) := by
  simp only [teI, I.dv, I.dvs, Tp.i_dv, sts_dv, Option.map_some, teD]
theorem teI_lists (e : Te) : (teI e).lists ≤ 0 := by
  simp [teI, I.lists, I.listss, Tp.i_lists, sts_lists]
theorem St.dv_deep : ∀ s : St, s.dv.deep ≤ s.deep + 1
  | .num _ => by simp [St.dv, DV.deep, DV.deepL, St.deep]
  | .nm _ => by simp [St.dv, DV.deep, DV.deepL, St.deep]
  | .bin _ a b => by have := a.dv_deep; have := b.dv_deep; simp [St.dv, DV.deep, DV.deepL, St.deep]; omega
theorem Tp.dv_deep : ∀ {p : Tp}, p.small 1 → p.dv.deep ≤ p.deep + 4
  | .give _ s, h => by have := s.dv_deep; have h : s.deep ≤ 1 := h; simp [Tp.dv, DV.deep, DV.deepL, Tp.deep]; omega
  | .ask _ ss _, h => by
    have : DV.deepL (ss.map St.dv) ≤ 2 := deepL_map St.dv fun s hs => by have := s.dv_deep; have := h.2 s hs; omega
    simp [Tp.dv, DV.deep, DV.deepL, Tp.deep]; omega
  | .bnd _ _ s p, h => by have := s.dv_deep; have := h.1; have := Tp.dv_deep h.2; simp [Tp.dv, DV.deep, DV.deepL, Tp.deep]; omega
  | .ifs s p q, h => by have := s.dv_deep; have := h.1; have := Tp.dv_deep h.2.1; have := Tp.dv_deep h.2.2; simp [Tp.dv, DV.deep, DV.deepL, Tp.deep]; omega
  | .post _ _ p q, h => by have := Tp.dv_deep h.1; have := Tp.dv_deep h.2; simp [Tp.dv, DV.deep, DV.deepL, Tp.deep]; omega
def tbD (b : Tb) : DV := .tup (b.map teD)
theorem tbI_dv (b : Tb) : (tbI b).dv = some (tbD b) := by simp only [tbI, I.dv, dvs_map teI teD teI_dv, Option.map_some, tbD]
theorem tbI_lists (b : Tb) : (tbI b).lists ≤ 0 := by simp only [tbI, I.lists]; exact lists_map teI teI_lists b
theorem tbD_deep {hdm : Str → Option Nat} {b : Tb} (h : ∀ e ∈ b, AnOk hdm e) : (tbD b).deep ≤ 110 := by
  have : DV.deepL (b.map teD) ≤ 106 := deepL_map teD fun e he => by
    have h1 := Tp.dv_deep (h e he).small
    have h2 := (h e he).deep
    have h3 : DV.deepL (e.2.1.map DV.str) ≤ 0 := deepL_map _ fun _ _ => by simp [DV.deep]
    simp [teD, DV.deep, DV.deepL]; omega
  simp [tbD, DV.deep]; omega
theorem tb_eq {hdm : Str → Option Nat} {a b : Tb} (h : ∀ e ∈ a, AnOk hdm e) : iEq (tbI a) (tbI b) = some (decide (tbD a = tbD b)) := by
  refine iEq_of (tbI_dv a) (tbI_dv b) (Nat.le_trans (tbI_lists a) (by omega)) (Nat.le_trans (tbI_lists b) (by omega)) ?_
  have := tbD_deep h
  omega
section
variable {wf : Nat}
theorem are_alike {k : Nat} (hk : 120 ≤ k) (hw : 10 ≤ wf) {hdm : Str → Option Nat} {a b : Tb} (ha6 : a.length ≤ 100) (hb6 : b.length ≤ 100) (ha : ∀ e ∈ a, AnOk hdm e) (hb : ∀ e ∈ b, AnOk hdm e) : (vctx VT wf k).call "are_alike" [.im (tbI a), .im (tbI b)] = .ok (.im (.bl (decide (tbD (a.map anE) = tbD (b.map anE))))) [.gone, .gone] := by
  obtain ⟨k, rfl⟩ := Nat.exists_eq_add_of_le' hk
  rw [vc_are_alike _ rfl]
  have e1 := anew (wf := wf) (k := k + 119) (by omega) hw hdm a ha6 ha
  have e2 := anew (wf := wf) (k := k + 119) (by omega) hw hdm b hb6 hb
  have h1 : ∀ e ∈ a.map anE, AnOk hdm e := fun e he => by
    obtain ⟨x, hx, rfl⟩ := List.mem_map.1 he
    exact anE_ok (ha x hx)
  have h2 := tb_eq (b := b.map anE) h1
  simp [f_are_alike, e1, e2, h2]
end
end Wn
end
section
/-! k24 P1: one thing otherwise. -/
namespace Wn
open PySem
def St.other : St → St
  | .num n => .num ((n + 1) % 1000)
  | .nm x => .bin false (.nm x) (.num 0)
  | .bin l a b => .bin (!l) a b
/-- another part in its stead -/
structure Oth (hdm : Str → Option Nat) (q r : Tp) : Prop where
  words : r.words = q.words
  posts : r.posts = q.posts
  size : r.size = q.size
  deep : r.deep = q.deep
  ok : ∀ A H, q.ok hdm A H → r.ok hdm A H
  small : q.small 1 → r.small 1
theorem Oth.refl (hdm : Str → Option Nat) (q : Tp) : Oth hdm q q := ⟨rfl, rfl, rfl, rfl, fun _ _ h => h, fun h => h⟩
theorem put_oth {hdm : Str → Option Nat} {r : Tp} : ∀ (p : Tp) (ns : List Nat) (H : List Str) {q : Tp} {H' : List Str}, p.at ns H = some (q, H') → Oth hdm q r → Oth hdm p (r.put p ns)
  | p, [], H, q, H', h, o => by
    cases p <;> (simp only [Tp.at, Option.some.injEq, Prod.mk.injEq] at h; obtain ⟨rfl, _⟩ := h; simpa only [Tp.put] using o)
  | .give _ _, _ :: _, H, q, H', h, o => by simp [Tp.at] at h
  | .ask _ _ _, _ :: _, H, q, H', h, o => by simp [Tp.at] at h
  | .bnd t x s p, n :: ns, H, q, H', h, o => by
    simp only [Tp.at] at h
    split at h
    · rename_i hn
      have i := put_oth p ns H h o
      simp only [Tp.put, hn, if_true]
      exact ⟨by simp [Tp.words, i.words], by simp [Tp.posts, i.posts], by simp [Tp.size, i.size], by simp [Tp.deep, i.deep], fun A H h => ⟨h.1, i.ok _ _ h.2⟩, fun h => ⟨h.1, i.small h.2⟩⟩
    · cases h
  | .ifs s p1 p2, n :: ns, H, q, H', h, o => by
    simp only [Tp.at] at h
    split at h
    · rename_i hn
      have i := put_oth p1 ns H h o
      have hn2 : ¬ n = 2 := by omega
      simp only [Tp.put, hn, if_true]
      exact ⟨by simp [Tp.words, i.words], by simp [Tp.posts, i.posts], by simp [Tp.size, i.size], by simp [Tp.deep, i.deep], fun A H h => ⟨h.1, i.ok _ _ h.2.1, h.2.2⟩, fun h => ⟨h.1, i.small h.2.1, h.2.2⟩⟩
    · split at h
      · rename_i hn hm
        have i := put_oth p2 ns H h o
        simp only [Tp.put, hm, if_true]
        exact ⟨by simp [Tp.words, i.words], by simp [Tp.posts, i.posts], by simp [Tp.size, i.size], by simp [Tp.deep, i.deep], fun A H h => ⟨h.1, h.2.1, i.ok _ _ h.2.2⟩, fun h => ⟨h.1, h.2.1, i.small h.2.2⟩⟩
      · cases h
  | .post j x p1 p2, n :: ns, H, q, H', h, o => by
    simp only [Tp.at] at h
    split at h
    · rename_i hn
      have i := put_oth p1 ns H h o
      simp only [Tp.put, hn, if_true]
      exact ⟨by simp [Tp.words, i.words], by simp [Tp.posts, i.posts], by simp [Tp.size, i.size], by simp [Tp.deep, i.deep], fun A H h => ⟨i.ok _ _ h.1, h.2⟩, fun h => ⟨i.small h.1, h.2⟩⟩
    · split at h
      · rename_i hn hm
        have i := put_oth p2 ns _ h o
        simp only [Tp.put, hm, if_true]
        exact ⟨by simp [Tp.words, i.words], by simp [Tp.posts, i.posts], by simp [Tp.size, i.size], by simp [Tp.deep, i.deep], fun A H h => ⟨h.1, i.ok _ _ h.2⟩, fun h => ⟨h.1, i.small h.2⟩⟩
      · cases h
theorem an_oth {hdm : Str → Option Nat} {n : Str} {N : List Str} {p r : Tp} (h : AnOk hdm (n, N, p)) (o : Oth hdm p r) : AnOk hdm (n, N, r) :=
  ⟨by show (N ++ r.words).Nodup; rw [o.words]; exact h.nw, by show r.posts.Nodup; rw [o.posts]; exact h.np, by show _ ∉ r.posts; rw [o.posts]; exact h.nh, o.ok _ _ h.ok, o.small h.small, by show r.size ≤ _; rw [o.size]; exact h.size, by show r.deep ≤ _; rw [o.deep]; exact h.deep, h.names⟩
/-- other terms in their stead -/
structure Alt (ss l : List St) : Prop where
  len : l.length = ss.length
  ok : ∀ A, (∀ s ∈ ss, s.ok A) → ∀ s ∈ l, s.ok A
  deep : (∀ s ∈ ss, s.deep ≤ 1) → ∀ s ∈ l, s.deep ≤ 1
theorem Alt.refl (ss : List St) : Alt ss ss := ⟨rfl, fun _ h => h, fun h => h⟩
theorem Alt.rev (ss : List St) : Alt ss ss.reverse := ⟨by simp, fun _ h s hs => h s (by simpa using hs), fun h s hs => h s (by simpa using hs)⟩
theorem St.other_ok {A : List Str} : ∀ {s : St}, s.ok A → s.other.ok A
  | .num n, h => Nat.mod_lt _ (by decide)
  | .nm x, h => ⟨h, by simp [St.ok]⟩
  | .bin _ _ _, h => h
theorem St.other_deep : ∀ {s : St}, s.deep ≤ 1 → s.other.deep ≤ 1
  | .num n, h => by simp [St.other, St.deep]
  | .nm x, h => by simp [St.other, St.deep]
  | .bin _ _ _, h => h
theorem Alt.one {ss : List St} {k : Nat} (hk : k < ss.length) : Alt ss (ss.take k ++ [ss[k].other] ++ ss.drop (k + 1)) := by
  refine ⟨by simp; omega, fun A h s hs => ?_, fun h s hs => ?_⟩
  · simp only [List.mem_append, List.mem_singleton] at hs
    rcases hs with (hs | rfl) | hs
    · exact h s (List.mem_of_mem_take hs)
    · exact St.other_ok (h _ (List.getElem_mem hk))
    · exact h s (List.mem_of_mem_drop hs)
  · simp only [List.mem_append, List.mem_singleton] at hs
    rcases hs with (hs | rfl) | hs
    · exact h s (List.mem_of_mem_take hs)
    · exact St.other_deep (h _ (List.getElem_mem hk))
    · exact h s (List.mem_of_mem_drop hs)
def tmI (l : List St) : I := .tup (l.map St.i)
section
variable {wf : Nat}
theorem other_simple {k : Nat} (hk : 1 ≤ k) (s : St) : (vctx VT wf k).call "_law_other_simple" [.im s.i] = .ok (.im s.other.i) [.gone] := by
  obtain ⟨k, rfl⟩ := Nat.exists_eq_add_of_le' hk
  rw [vc__law_other_simple _ rfl]
  have hb := bigN
  cases s with
  | num n =>
    have hc : ((n : Int) + 1) % 1000 = (((n + 1) % 1000 : Nat) : Int) := by omega
    simp only [St.other, St.i]
    generalize (n + 1) % 1000 = m at *
    simp [f__law_other_simple, hc]
  | nm x => simp [f__law_other_simple, St.other, St.i]
  | bin l a b => cases l <;> simp [f__law_other_simple, St.other, St.i, hb]
theorem some_terms {k : Nat} (hk : 2 ≤ k) (q : Tp) (hq : q.simples.length ≤ 4) (e0 e1 e2 e3 e4 e5 e6 e7 : V) : ∃ ls : List (List St), (∀ l ∈ ls, Alt q.simples l) ∧ 0 < ls.length ∧ ls.length ≤ 5 ∧ ls[0]? = some q.simples ∧
    vforGo (stepV (vCtx VT wf k [true, false]) (.nm 10) b1__law_one_sign) ((List.range q.simples.length).map fun (j : Nat) => I.int (j : Int)) [e0, e1, e2, e3, e4, e5, e6, e7, .im q.i, lstV [tmI q.simples], .gone, .gone, .gone, .gone, .gone] = .ok .nx [e0, e1, e2, e3, e4, e5, e6, e7, .im q.i, lstV (ls.map tmI), .gone, .gone, .gone, .gone, .gone] := by
  have hb := bigN
  generalize q.simples = ss at *
  have hL := vforGo_inv (step := stepV (vCtx VT wf k [true, false]) (.nm 10) b1__law_one_sign) (fun xs E => ∃ (ls : List (List St)) (c : Nat), xs = (List.range' c (ss.length - c)).map (fun (j : Nat) => I.int (j : Int)) ∧ c ≤ ss.length ∧ ls.length = c + 1 ∧ ls[0]? = some ss ∧ (∀ l ∈ ls, Alt ss l) ∧ E = [e0, e1, e2, e3, e4, e5, e6, e7, .im q.i, lstV (ls.map tmI), .gone, .gone, .gone, .gone, .gone]) (by
    rintro x xs E ⟨ls, c, hx, hc, hl, h0, hA, rfl⟩
    obtain ⟨m', hm'⟩ : ∃ m', ss.length - c = m' + 1 := by
      cases h : ss.length - c with
      | zero => rw [h] at hx; simp at hx
      | succ m' => exact ⟨m', rfl⟩
    rw [hm', List.range'_succ, List.map_cons] at hx
    obtain ⟨rfl, rfl⟩ := List.cons.inj hx
    have hcl : c < ss.length := by omega
    have hin : m' = ss.length - (c + 1) := by omega
    have e1 := other_simple (wf := wf) (k := k) (by omega) ss[c]
    have hx0 : ixOf ls.length 0 = some 0 := ixOf_nat (n := ls.length) (i := 0) (by omega)
    have hxc : ixOf ss.length (c : Int) = some c := ixOf_nat hcl
    have hg0 : (ls.map tmI)[0]? = some (tmI ss) := by rw [List.getElem?_map, h0]; rfl
    have hgc : ss[c]? = some ss[c] := List.getElem?_eq_getElem hcl
    have hct := cut_to (ss.map St.i) c
    have hcf := cut_from (ss.map St.i) (c + 1)
    simp only [Int.natCast_add, Int.cast_ofNat_Int] at hcf
    have hll : ls.length < 16777216 := by omega
    have b1 : min c ss.length + 1 ≤ 16777216 := by omega
    have b2 : min c ss.length + 1 + (ss.length - (c + 1)) ≤ 16777216 := by omega
    refine ⟨[e0, _, e2, e3, e4, e5, e6, e7, .im q.i, lstV ((ls ++ [ss.take c ++ [ss[c].other] ++ ss.drop (c + 1)]).map tmI), .gone, .gone, .gone, .gone, .gone], ?_, ls ++ [ss.take c ++ [ss[c].other] ++ ss.drop (c + 1)], c + 1, by rw [hin], hcl, by simp [hl], ?_, ?_, rfl⟩
    · simp [stepV, vSetTg, b1__law_one_sign, hx0, hg0, tmI, hxc, hgc, e1, hct, hcf, hb, b1, b2, hll, List.map_take, List.map_drop]
    · rw [List.getElem?_append_left (by omega)]; exact h0
    · intro l hl2
      rcases List.mem_append.1 hl2 with z | z
      · exact hA l z
      · simp only [List.mem_singleton] at z; subst z; exact Alt.one hcl)
  obtain ⟨E', e, ls, c, hx, hc, hl, h0, hA, rfl⟩ := hL ((List.range ss.length).map fun (j : Nat) => I.int (j : Int)) [e0, e1, e2, e3, e4, e5, e6, e7, .im q.i, lstV [tmI ss], .gone, .gone, .gone, .gone, .gone] ⟨[ss], 0, by rw [List.range_eq_range']; rfl, by omega, rfl, rfl, fun l hl => by simp at hl; subst hl; exact Alt.refl _, rfl⟩
  exact ⟨ls, hA, by omega, by omega, h0, e⟩
end
end Wn
end
section
/-! k24 P2: a book with one thing otherwise. -/
namespace Wn
open PySem
section
variable {wf : Nat}
theorem one_sign {k : Nat} (hk : 120 ≤ k) (v : Int) (hdm : Str → Option Nat) (b : Tb) (h1 : 1 ≤ b.length) (h6 : b.length ≤ 6) (h : ∀ e ∈ b, AnOk hdm e) : ∃ (b' : Tb) (v' : Int), (vctx VT wf k).call "_law_one_sign" [tp v, .im (tbI b)] = .ok (.im (tbI b')) [tp v', .gone] ∧ b'.length = b.length ∧ ∀ e ∈ b', AnOk hdm e := by
  obtain ⟨k, rfl⟩ := Nat.exists_eq_add_of_le' hk
  rw [vc__law_one_sign _ rfl]
  have hb := bigN
  obtain ⟨i, v1, d1, l1⟩ := digitE (wf := wf) (k := k + 119) (by omega) v (m := (b.length : Int)) (by omega) (by omega)
  have hi : i < b.length := by omega
  have hxi : ixOf b.length (i : Int) = some i := ixOf_nat hi
  have hgi : b[i]? = some b[i] := List.getElem?_eq_getElem hi
  have hok := h b[i] (List.getElem_mem hi)
  generalize b[i] = e at hgi hok
  obtain ⟨f, N, p⟩ := e
  have hsz := hok.size
  have hdp := hok.deep
  simp only at hsz hdp
  have epl := law_tplaces (wf := wf) p (k := k + 119) (by omega) (by omega) [] [] (by simp; omega)
  simp only [plcI, nats_nil, List.append_nil] at epl
  have hal := p.all_len []
  have hpos := p.size_pos
  obtain ⟨c, v2, d2, l2⟩ := digitE (wf := wf) (k := k + 119) (by omega) v1 (m := ((p.all []).length : Int)) (by omega) (by omega)
  have hc : c < (p.all []).length := by omega
  have hxc : ixOf (p.all []).length (c : Int) = some c := ixOf_nat hc
  have hgc : (p.all [])[c]? = some (p.all [])[c] := List.getElem?_eq_getElem hc
  have hall : (p.all [])[c] ∈ p.all [] := List.getElem_mem hc
  generalize (p.all [])[c] = it at hgc hall
  obtain ⟨ns, q⟩ := it
  obtain ⟨ms, H', a3, a4⟩ := p.at_all [] _ hall ["home"]
  simp only [List.nil_append] at a3
  subst a3
  have hql : q.simples.length ≤ 4 := by
    have hall2 : ∀ (p : Tp) (ns : List Nat), p.small 1 → ∀ x ∈ p.all ns, x.2.small 1 := by
      intro p
      induction p with
      | give j s => intro ns h x hx; simp [Tp.all] at hx; subst hx; exact h
      | ask f ss j => intro ns h x hx; simp [Tp.all] at hx; subst hx; exact h
      | bnd t y s p ih =>
        intro ns h x hx
        simp only [Tp.all, List.mem_cons] at hx
        rcases hx with rfl | hx
        · exact h
        · exact ih _ h.2 x hx
      | ifs s p q ih1 ih2 =>
        intro ns h x hx
        simp only [Tp.all, List.mem_cons, List.mem_append] at hx
        rcases hx with rfl | hx | hx
        · exact h
        · exact ih1 _ h.2.1 x hx
        · exact ih2 _ h.2.2 x hx
      | post j y p q ih1 ih2 =>
        intro ns h x hx
        simp only [Tp.all, List.mem_cons, List.mem_append] at hx
        rcases hx with rfl | hx | hx
        · exact h
        · exact ih1 _ h.1 x hx
        · exact ih2 _ h.2 x hx
    have hqs := hall2 p [] hok.small _ hall
    cases q with
    | ask f ss j => exact hqs.1
    | _ => simp [Tp.simples]
  have esi := law_simples (wf := wf) (k := k + 119) (by omega) q
  obtain ⟨ls, hA, hl0, hl5, hls0, efor⟩ := some_terms (wf := wf) (k := k + 119) (by omega) q hql (lstV [.int v2]) (.im (tbI b)) (.im (.int i)) (.im (.str f)) (.im (.tup (sts N))) (.im p.i) (lstV ((p.all []).map (allI []))) (.im (.tup (nats ns)))
  have hin : inBound (q.simples.length : Int) = true := inBound_nat (by omega)
  obtain ⟨z, v3, d3, l3⟩ := digitE (wf := wf) (k := k + 119) (by omega) v2 (m := (ls.length : Int) + 1) (by omega) (by omega)
  have hz : z < (ls ++ [q.simples.reverse]).length := by simp; omega
  have hxz : ixOf (ls.length + 1) (z : Int) = some z := ixOf_nat (by omega)
  have hgz : (ls ++ [q.simples.reverse])[z]? = some (ls ++ [q.simples.reverse])[z] := List.getElem?_eq_getElem hz
  have hAz : Alt q.simples (ls ++ [q.simples.reverse])[z] := by
    have hm : (ls ++ [q.simples.reverse])[z] ∈ ls ++ [q.simples.reverse] := List.getElem_mem hz
    rcases List.mem_append.1 hm with y | y
    · exact hA _ y
    · simp only [List.mem_singleton] at y; rw [y]; exact Alt.rev _
  have hgz2 : (ls.map tmI ++ [I.tup (q.simples.map St.i).reverse])[z]? = some (tmI (ls ++ [q.simples.reverse])[z]) := by
    have : ls.map tmI ++ [I.tup (q.simples.map St.i).reverse] = (ls ++ [q.simples.reverse]).map tmI := by simp [tmI]
    rw [this, List.getElem?_map, hgz]; rfl
  generalize (ls ++ [q.simples.reverse])[z] = l at hAz hgz2
  have hx0 : ixOf ls.length 0 = some 0 := ixOf_nat (n := ls.length) (i := 0) hl0
  have hg0 : (ls.map tmI)[0]? = some (tmI q.simples) := by rw [List.getElem?_map, hls0]; rfl
  have hct := cut_to (b.map teI) i
  have hcf := cut_from (b.map teI) (i + 1)
  simp only [Int.natCast_add, Int.cast_ofNat_Int] at hcf
  have b1 : min i b.length + 1 ≤ 16777216 := by omega
  have b2 : min i b.length + 1 + (b.length - (i + 1)) ≤ 16777216 := by omega
  have b3 : ls.length + 1 ≤ 16777216 := by omega
  simp only [tp] at d1 d2 d3
  -- what comes at the end
  have fin : ∀ r : Tp, Oth hdm q r → ∀ v4 : Int, ((vctx VT wf (k + 119)).call "_law_tput" [.im p.i, .im (.tup (nats ns)), .im r.i] = .ok (.im (r.put p ns).i) [.gone, .gone, .gone]) ∧ ((b.take i ++ [(f, N, r.put p ns)] ++ b.drop (i + 1)).length = b.length ∧ ∀ e ∈ b.take i ++ [(f, N, r.put p ns)] ++ b.drop (i + 1), AnOk hdm e) := by
    intro r o v4
    refine ⟨law_tput (wf := wf) r p (k := k + 119) (by omega) ns a4, by simp; omega, fun e he => ?_⟩
    simp only [List.mem_append, List.mem_singleton] at he
    rcases he with (he | rfl) | he
    · exact h e (List.mem_of_mem_take he)
    · exact an_oth hok (put_oth p ns ["home"] a4 o)
    · exact h e (List.mem_of_mem_drop he)
  have hr3 : op1 iRev (.im (tmI q.simples)) = some (.im (.tup (q.simples.map St.i).reverse)) := rfl
  generalize hss : q.simples = ss at esi efor hAz hin hls0 hgz2 hql hr3
  have hlen := hAz.len
  have hir := iRange_nat ss.length
  simp only [tbI, tmI] at efor
  simp only [tmI] at hgz2
  simp only [tmI] at hr3
  have one : ∀ s, [s] = ss → ∃ s2, l = [s2] := by
    rintro s rfl
    match l, hlen with
    | [s2], _ => exact ⟨s2, rfl⟩
  cases q with
  | give j s =>
    simp only [Tp.simples] at hss
    obtain ⟨s2, rfl⟩ := one s hss
    subst hss
    obtain ⟨ep, hr⟩ := fin (.give j s2) ⟨rfl, rfl, rfl, rfl, fun A H o => ⟨o.1, hAz.ok A (by simpa using o.2) s2 (by simp)⟩, fun o => hAz.deep (fun t ht => by simp at ht; subst ht; exact o) s2 (by simp)⟩ v3
    generalize hs0 : [s] = ss at esi efor hin hls0 hgz2 hir hr3
    simp only [Tp.i] at esi efor ep
    refine ⟨_, v3, ?_, hr⟩
    simp [f__law_one_sign, tp, isGone_eq, d1, tbI, hxi, hgi, teI, vSetTg, vSetTg.setAll, epl, d2, hxc, hgc, allI, plcI, Tp.i, esi, hin, tmI, hir, efor, hx0, hls0, hr3, hb, b3, d3, hxz, hgz2, ep, hct, hcf, b1, b2, iIn, iAnyEq]
  | ask f2 ss2 j =>
    simp only [Tp.simples] at hss
    subst hss
    obtain ⟨ep, hr⟩ := fin (.ask f2 l j) ⟨rfl, rfl, rfl, rfl, fun A H o => ⟨by rw [hlen]; exact o.1, hAz.ok A o.2.1, o.2.2⟩, fun o => by rw [Tp.small]; exact ⟨by rw [hlen]; exact o.1, hAz.deep o.2⟩⟩ v3
    simp only [Tp.i] at esi efor ep
    refine ⟨_, v3, ?_, hr⟩
    simp [f__law_one_sign, tp, isGone_eq, d1, tbI, hxi, hgi, teI, vSetTg, vSetTg.setAll, epl, d2, hxc, hgc, allI, plcI, Tp.i, esi, hin, tmI, hir, efor, hx0, hls0, hr3, hb, b3, d3, hxz, hgz2, ep, hct, hcf, b1, b2, iIn, iAnyEq]
  | ifs s p1 p2 =>
    simp only [Tp.simples] at hss
    obtain ⟨s2, rfl⟩ := one s hss
    subst hss
    obtain ⟨ep, hr⟩ := fin (.ifs s2 p1 p2) ⟨rfl, rfl, rfl, rfl, fun A H o => ⟨hAz.ok A (by simpa using o.1) s2 (by simp), o.2⟩, fun o => ⟨hAz.deep (fun t ht => by simp at ht; subst ht; exact o.1) s2 (by simp), o.2⟩⟩ v3
    generalize hs0 : [s] = ss at esi efor hin hls0 hgz2 hir hr3
    simp only [Tp.i] at esi efor ep
    refine ⟨_, v3, ?_, hr⟩
    simp [f__law_one_sign, tp, isGone_eq, d1, tbI, hxi, hgi, teI, vSetTg, vSetTg.setAll, epl, d2, hxc, hgc, allI, plcI, Tp.i, esi, hin, tmI, hir, efor, hx0, hls0, hr3, hb, b3, d3, hxz, hgz2, ep, hct, hcf, b1, b2, iIn, iAnyEq]
  | post j x p1 p2 =>
    simp only [Tp.simples] at hss
    obtain ⟨ep, hr⟩ := fin (.post j x p1 p2) (Oth.refl _ _) v3
    simp only [Tp.i] at esi efor ep
    refine ⟨_, v3, ?_, hr⟩
    simp [f__law_one_sign, tp, isGone_eq, d1, tbI, hxi, hgi, teI, vSetTg, vSetTg.setAll, epl, d2, hxc, hgc, allI, plcI, Tp.i, esi, hin, tmI, hir, efor, hx0, hls0, hr3, hb, b3, d3, hxz, hgz2, ep, hct, hcf, b1, b2, iIn, iAnyEq]
  | bnd t x s p1 =>
    simp only [Tp.simples] at hss
    obtain ⟨s2, rfl⟩ := one s hss
    subst hss
    obtain ⟨y, v4, d4, l4⟩ := digitE (wf := wf) (k := k + 119) (by omega) v3 (m := 3) (by decide) (by decide)
    simp only [tp] at d4
    by_cases hy : y = 0
    · subst hy
      obtain ⟨ep, hr⟩ := fin (.bnd (!t) x s p1) ⟨rfl, rfl, rfl, rfl, fun A H o => o, fun o => o⟩ v4
      generalize hs0 : [s] = ss at esi efor hin hls0 hgz2 hir hr3
      simp only [Tp.i] at esi efor ep
      refine ⟨_, v4, ?_, hr⟩
      cases t <;> simp only [bndw_true, bndw_false, Bool.not_true, Bool.not_false] at esi efor ep <;> simp [f__law_one_sign, tp, isGone_eq, d1, tbI, hxi, hgi, teI, vSetTg, vSetTg.setAll, epl, d2, hxc, hgc, allI, plcI, Tp.i, esi, hin, tmI, hir, efor, hx0, hls0, hr3, hb, b3, d3, hxz, hgz2, ep, hct, hcf, b1, b2, iIn, iAnyEq, d4]
    · obtain ⟨ep, hr⟩ := fin (.bnd t x s2 p1) ⟨rfl, rfl, rfl, rfl, fun A H o => ⟨hAz.ok A (by simpa using o.1) s2 (by simp), o.2⟩, fun o => ⟨hAz.deep (fun t ht => by simp at ht; subst ht; exact o.1) s2 (by simp), o.2⟩⟩ v4
      generalize hs0 : [s] = ss at esi efor hin hls0 hgz2 hir hr3
      simp only [Tp.i] at esi efor ep
      refine ⟨_, v4, ?_, hr⟩
      cases t <;> simp only [bndw_true, bndw_false] at esi efor ep <;> simp [f__law_one_sign, tp, isGone_eq, d1, tbI, hxi, hgi, teI, vSetTg, vSetTg.setAll, epl, d2, hxc, hgc, allI, plcI, Tp.i, esi, hin, tmI, hir, efor, hx0, hls0, hr3, hb, b3, d3, hxz, hgz2, ep, hct, hcf, b1, b2, iIn, iAnyEq, d4, hy]
end
end Wn
end
section
/-! k24 P3: many words, and the law. -/
namespace Wn
open PySem
def zx (k : Nat) : Str := Str.ofString "z" ++ lett (k / 26) ++ lett (k % 26)
def manyP : Nat → Tp
  | 0 => .give "home" (.nm "start")
  | k + 1 => if k % 2 = 0 then .bnd false (zx k) (.num k) (manyP k) else .post (zx k) (Str.ofString "y" ++ zx k) (manyP k) (.give (zx k) (.num k))
theorem manyP_ok (hdm : Str → Option Nat) : ∀ (k : Nat), k ≤ 30 → ∀ A H : List Str, ("start" : Str) ∈ A → ("home" : Str) ∈ H → (manyP k).ok hdm A H
  | 0, _, A, H, hA, hH => ⟨hH, hA⟩
  | k + 1, hk, A, H, hA, hH => by
    rw [manyP]
    split
    · exact ⟨show k < 1000 by omega, manyP_ok hdm k (by omega) _ _ (List.mem_append_left _ hA) hH⟩
    · exact ⟨manyP_ok hdm k (by omega) _ _ (List.mem_append_left _ hA) hH, by simp, show k < 1000 by omega⟩
theorem manyP_size : ∀ k : Nat, (manyP k).size ≤ 2 * k + 1 ∧ (manyP k).deep ≤ k ∧ (manyP k).small 1
  | 0 => ⟨by simp [manyP, Tp.size], by simp [manyP, Tp.deep], by simp [manyP, Tp.small, St.deep]⟩
  | k + 1 => by
    have := manyP_size k
    rw [manyP]
    split
    · exact ⟨by simp [Tp.size]; omega, by simp [Tp.deep]; omega, by simp [St.deep], this.2.2⟩
    · exact ⟨by simp [Tp.size]; omega, by simp [Tp.deep]; omega, this.2.2, by simp [Tp.small, St.deep]⟩
def manyB : Tb := [("f", ["start"], manyP 30)]
theorem many_nw : ([("start" : Str)] ++ (manyP 30).words).Nodup := nodup_of (by decide +kernel)
theorem many_np : (("home" : Str) :: (manyP 30).posts).Nodup := nodup_of (by decide +kernel)
theorem many_ok (hdm : Str → Option Nat) : ∀ e ∈ manyB, AnOk hdm e := by
  intro e he
  simp only [manyB, List.mem_singleton] at he
  subst he
  have h := manyP_size 30
  have hn := List.nodup_cons.1 many_np
  exact ⟨many_nw, hn.2, hn.1, manyP_ok hdm 30 (by omega) _ _ (by simp) (by simp), h.2.2, by show (manyP 30).size ≤ _; omega, by show (manyP 30).deep ≤ _; omega, by simp⟩
theorem an_of {st : Bool} {hd : List (Str × Nat)} {e : Te} (h : TeOk st hd e) : AnOk (fun f => hd.lookup f) e :=
  ⟨h.fine.1, h.posts.1, fun z => absurd (h.posts.2 _ z) (by decide +kernel), h.ok, h.small, by have := h.size; omega, by have := h.deep; omega, by have := h.names; omega⟩
section
variable {wf : Nat}
theorem many_words {k : Nat} (hk : 1 ≤ k) : (vctx VT wf k).call "_law_many_words" [] = .ok (.im (tbI manyB)) [] := by
  obtain ⟨k, rfl⟩ := Nat.exists_eq_add_of_le' hk
  rw [vc__law_many_words _ rfl]
  have hb := bigN
  have hL := vforGo_inv (step := stepV (vCtx VT wf k []) (.nm 2) b1__law_many_words) (fun xs E => ∃ c : Nat, xs = (List.range' c (30 - c)).map (fun (j : Nat) => I.int (j : Int)) ∧ c ≤ 30 ∧ E = [.im (manyP c).i, .im (.str "abcdefghijklmnopqrstuvwxyz"), .gone, .gone, .gone]) (by
    rintro x xs E ⟨c, hx, hc, rfl⟩
    obtain ⟨m', hm'⟩ : ∃ m', 30 - c = m' + 1 := by
      cases h : 30 - c with
      | zero => rw [h] at hx; simp at hx
      | succ m' => exact ⟨m', rfl⟩
    rw [hm', List.range'_succ, List.map_cons] at hx
    obtain ⟨rfl, rfl⟩ := List.cons.inj hx
    have hin : m' = 30 - (c + 1) := by omega
    refine ⟨[.im (manyP (c + 1)).i, .im (.str "abcdefghijklmnopqrstuvwxyz"), .gone, .gone, .gone], ?_, c + 1, by rw [hin], by omega, rfl⟩
    have h1 := abc_idx (j := c / 26) (by omega)
    have h2 := abc_idx (j := c % 26) (by omega)
    have hl1 : (lett (c / 26)).length = 1 := rfl
    have hl2 : (lett (c % 26)).length = 1 := rfl
    have hc1 : ((c : Int) / 26) = ((c / 26 : Nat) : Int) := by omega
    have hc2 : ((c : Int) % 26) = ((c % 26 : Nat) : Int) := by omega
    have hz1 : (Str.ofString "z").length = 1 := by decide +kernel
    have hy1 : (Str.ofString "y").length = 1 := by decide +kernel
    have hz2 : (Str.ofString "z" ++ lett (c / 26)).length = 2 := by rw [str_len_app]; omega
    have hz3 : (zx c).length = 3 := by rw [zx, str_len_app]; omega
    have hzx : Str.ofString "z" ++ lett (c / 26) ++ lett (c % 26) = zx c := rfl
    have hm2 : ((c : Int) % 2) = ((c % 2 : Nat) : Int) := by omega
    have hx2 : ixOf 2 ((c % 2 : Nat) : Int) = some (c % 2) := ixOf_nat (Nat.mod_lt _ (by decide))
    have hmp : manyP (c + 1) = if c % 2 = 0 then .bnd false (zx c) (.num c) (manyP c) else .post (zx c) (Str.ofString "y" ++ zx c) (manyP c) (.give (zx c) (.num c)) := rfl
    rw [hmp]
    have hcase : c % 2 = 0 ∨ c % 2 = 1 := by omega
    generalize c % 2 = q at *
    generalize c / 26 = q1 at *
    generalize c % 26 = q2 at *
    rcases hcase with rfl | rfl
    · simp [stepV, vSetTg, b1__law_many_words, hc1, hc2, h1, h2, hb, hz1, hl1, hz2, hl2, hzx, hy1, hz3, hm2, Tp.i, St.i, -iIdx_str]
    · simp [stepV, vSetTg, b1__law_many_words, hc1, hc2, h1, h2, hb, hz1, hl1, hz2, hl2, hzx, hy1, hz3, hm2, Tp.i, St.i, -iIdx_str])
  obtain ⟨E', e, c, hx, hc, rfl⟩ := hL ((List.range 30).map fun (j : Nat) => I.int (j : Int)) [.im (manyP 0).i, .im (.str "abcdefghijklmnopqrstuvwxyz"), .gone, .gone, .gone] ⟨0, by rw [List.range_eq_range'], by omega, rfl⟩
  have hcm : c = 30 := by
    cases h : 30 - c with
    | zero => omega
    | succ m' => rw [h, List.range'_succ] at hx; simp at hx
  subst hcm
  have hr : iRange 0 30 = (List.range 30).map fun (k : Nat) => I.int (k : Int) := iRange_nat 30
  have hi : inBound 30 = true := by decide
  have h0 : (manyP 0).i = .tup [.str "give", .str "home", .tup [.str "name", .str "start"]] := rfl
  rw [h0] at e
  simp [f__law_many_words, hi, hr, e, tbI, manyB, teI, sts]
theorem look1 {k : Nat} (hk : 130 ≤ k) (hw : 10 ≤ wf) {hdm : Str → Option Nat} {b : Tb} (h6 : b.length ≤ 100) (h : ∀ e ∈ b, AnOk hdm e) (a0 a1 a2 a5 a6 a7 a8 : V) : stepV (vCtx VT wf k []) (.nm 3) b1_law (tbI b) [a0, a1, a2, .gone, .gone, a5, a6, a7, a8] = .ok .nx [a0, a1, a2, .gone, .gone, a5, a6, a7, a8] := by
  have h1 : ∀ e ∈ b.map anE, AnOk hdm e := fun e he => by
    obtain ⟨x, hx, rfl⟩ := List.mem_map.1 he
    exact anE_ok (h x hx)
  have hag : (b.map anE).map anE = b.map anE := by
    rw [List.map_map]
    exact List.map_congr_left fun e he => anE_again (h e he)
  have e1 := law_anew (wf := wf) (k := k) (by omega) hw hdm b h6 h
  have e2 := anew (wf := wf) (k := k) (by omega) hw hdm b h6 h
  have e3 := anew (wf := wf) (k := k) (by omega) hw hdm (b.map anE) (by simpa using h6) h1
  have e4 := are_alike (wf := wf) (k := k) (by omega) hw h6 (by simpa using h6 : (b.map anE).length ≤ 100) h h1
  rw [hag] at e3 e4
  have heq := tb_eq (b := b.map anE) h1
  simp only [decide_true] at e4 heq
  simp [stepV, vSetTg, b1_law, e1, e2, e3, e4, heq]
theorem vlaw {k : Nat} (hw : 10 ≤ wf) (hk : 140 ≤ k) (ns : List Int) : ∃ outs, (vctx VT wf k).call "law" [.im (.fl ns)] = .ok (.im (.bl true)) outs := by
  obtain ⟨k, rfl⟩ := Nat.exists_eq_add_of_le' hk
  rw [vc_law _ rfl]
  have hb := bigN
  obtain ⟨v0, e0⟩ := tape (wf := wf) (k := k + 139) (by omega) ns 0
  obtain ⟨q, v1, e1, l1⟩ := digitE (wf := wf) (k := k + 139) (by omega) v0 (m := 7) (by decide) (by decide)
  obtain ⟨b0, e2, ok⟩ := tbook (wf := wf) (k := k + 139) (by omega) ns 0 (decide (q < 4))
  have hA : ∀ e ∈ b0, AnOk (fun f => (hdOf b0).lookup f) e := fun e he => an_of (ok.each e he)
  have h16 := ok.l1
  have h66 := ok.l6
  have e3 := many_words (wf := wf) (k := k + 139) (by omega)
  have hdc : decide ((q : Int) < 4) = decide (q < 4) := by congr 1; apply propext; omega
  have hm6 : manyB.length ≤ 100 := by simp [manyB]
  have s1 := look1 (wf := wf) (k := k + 139) (by omega) hw (b := b0) (by omega) hA
  have s2 := look1 (wf := wf) (k := k + 139) (by omega) hw (b := manyB) hm6 (many_ok fun f => (hdOf b0).lookup f)
  simp only [tp, Int.cast_ofNat_Int] at e0 e1 e2
  -- the turns
  have s3 : ∀ (a5 : V) (v : Int) (x : I), ∃ v', stepV (vCtx VT wf (k + 139) []) (.nm 7) b3_law x [.im (.fl ns), .im (.bl (decide (q < 4))), .im (tbI b0), .gone, .gone, a5, lstV [.int v], .gone, .gone] = .ok .nx [.im (.fl ns), .im (.bl (decide (q < 4))), .im (tbI b0), .gone, .gone, a5, lstV [.int v'], .gone, .gone] := by
    intro a5 v x
    obtain ⟨b', v', e4, hl, hA'⟩ := one_sign (wf := wf) (k := k + 139) (by omega) v (fun f => (hdOf b0).lookup f) b0 h16 h66 hA
    have e5 := law_anew (wf := wf) (k := k + 139) (by omega) hw _ b' (by omega) hA'
    have e6 := law_anew (wf := wf) (k := k + 139) (by omega) hw _ b0 (by omega) hA
    have e7 := are_alike (wf := wf) (k := k + 139) (by omega) hw (by omega) (by omega) hA hA'
    have e8 := are_alike (wf := wf) (k := k + 139) (by omega) hw (by omega) (by omega) hA' hA
    have h1 : ∀ e ∈ b'.map anE, AnOk (fun f => (hdOf b0).lookup f) e := fun e he => by
      obtain ⟨x, hx, rfl⟩ := List.mem_map.1 he
      exact anE_ok (hA' x hx)
    have heq := tb_eq (b := b0.map anE) h1
    have hsym : decide (tbD (b0.map anE) = tbD (b'.map anE)) = decide (tbD (b'.map anE) = tbD (b0.map anE)) := by congr 1; apply propext; exact eq_comm
    rw [hsym] at e7
    generalize decide (tbD (b'.map anE) = tbD (b0.map anE)) = d at *
    simp only [tp] at e4
    refine ⟨v', ?_⟩
    simp [stepV, vSetTg, b3_law, isGone_eq, e4, e5, e6, heq, e7, e8, b2_law, iTy]
  have s4 : ∀ x : I, (∃ n : Nat, x = .int n) → stepV (vCtx VT wf (k + 139) []) (.nm 5) b4_law x [.im (.fl ns), .im (.bl (decide (q < 4))), .im (tbI b0), .gone, .gone, .gone, .gone, .gone, .gone] = .ok .nx [.im (.fl ns), .im (.bl (decide (q < 4))), .im (tbI b0), .gone, .gone, .gone, .gone, .gone, .gone] := by
    rintro x ⟨n, rfl⟩
    obtain ⟨v, e4⟩ := tape (wf := wf) (k := k + 139) (by omega) ns n
    obtain ⟨va, ea⟩ := s3 (.im (.int n)) v (.int 0)
    obtain ⟨vb, eb⟩ := s3 (.im (.int n)) va (.int 1)
    obtain ⟨vc, ec⟩ := s3 (.im (.int n)) vb (.int 2)
    have hr3 : iRange 0 3 = [.int 0, .int 1, .int 2] := rfl
    have hi3 : inBound 3 = true := by decide
    simp only [tp] at e4
    have e9 : stepV (vCtx VT wf (k + 139) []) (.nm 5) b4_law (.int n) = fun E => match vSetTg [] (.nm 5) (.im (.int n)) E with
      | some E1 => vSs (vCtx VT wf (k + 139) []) b4_law E1
      | none => .bad := by funext E; simp only [stepV]; rfl
    rw [e9]
    simp [vSetTg, b4_law, e4, hi3, hr3, ea, eb, ec]
  have hL := vforGo_inv (step := stepV (vCtx VT wf (k + 139) []) (.nm 5) b4_law) (fun xs E => (∀ x ∈ xs, ∃ n : Nat, x = .int n) ∧ E = [.im (.fl ns), .im (.bl (decide (q < 4))), .im (tbI b0), .gone, .gone, .gone, .gone, .gone, .gone]) (by
    rintro x xs E ⟨hx, rfl⟩
    exact ⟨_, s4 x (hx x (List.mem_cons_self ..)), fun y hy => hx y (List.mem_cons_of_mem _ hy), rfl⟩)
  have fin : ∀ M : Int, vforGo (stepV (vCtx VT wf (k + 139) []) (.nm 5) b4_law) (iRange 7 M) [.im (.fl ns), .im (.bl (decide (q < 4))), .im (tbI b0), .gone, .gone, .gone, .gone, .gone, .gone] = .ok .nx [.im (.fl ns), .im (.bl (decide (q < 4))), .im (tbI b0), .gone, .gone, .gone, .gone, .gone, .gone] := by
    intro M
    obtain ⟨E', e, _, rfl⟩ := hL (iRange 7 M) [.im (.fl ns), .im (.bl (decide (q < 4))), .im (tbI b0), .gone, .gone, .gone, .gone, .gone, .gone] ⟨by
      intro x hx
      simp only [iRange, List.mem_map] at hx
      obtain ⟨j, _, rfl⟩ := hx
      exact ⟨7 + j, by simp⟩, rfl⟩
    exact e
  have hi7 : inBound 7 = true := by decide
  have hi10 : inBound 10 = true := by decide
  have hi15 : inBound 15 = true := by decide
  refine ⟨[.gone], ?_⟩
  by_cases h1 : (ns.length : Int) < 15
  · by_cases h2 : 10 < (ns.length : Int)
    · have hin : inBound (ns.length : Int) = true := inBound_nat (by omega)
      simp [f_law, e0, e1, hdc, e2, e3, s1, s2, h1, h2, hi7, hin, fin]
    · simp [f_law, e0, e1, hdc, e2, e3, s1, s2, h1, h2, hi7, hi10, fin]
  · simp [f_law, e0, e1, hdc, e2, e3, s1, s2, h1, hi7, hi15, fin]
end
end Wn
end
section
namespace Wn
open PySem PySem.Spec PyProof.Rows L2
def top (i : Nat) : Stmt := PySem.Challenge.pw_whatnext_k24_alike_but_for_a_sign.main.body.getD i (.Pass ⟨0, 0, 0, 0⟩)
def ds : List Df := [⟨"inner_turned", f_inner_turned, top 3⟩, ⟨"words_in", f_words_in, top 4⟩, ⟨"hands_in", f_hands_in, top 5⟩, ⟨"word_of", f_word_of, top 7⟩, ⟨"words_by", f_words_by, top 8⟩, ⟨"term_by", f_term_by, top 9⟩, ⟨"part_by", f_part_by, top 10⟩, ⟨"anew", f_anew, top 11⟩, ⟨"are_alike", f_are_alike, top 12⟩, ⟨"_law_cell_at", f__law_cell_at, top 14⟩, ⟨"_law_tape", f__law_tape, top 15⟩, ⟨"_law_digit", f__law_digit, top 16⟩, ⟨"_law_words", f__law_words, top 17⟩, ⟨"_law_number", f__law_number, top 18⟩, ⟨"_law_leaf", f__law_leaf, top 19⟩, ⟨"_law_shares", f__law_shares, top 20⟩, ⟨"_law_less_one", f__law_less_one, top 21⟩, ⟨"_law_parts", f__law_parts, top 22⟩, ⟨"_law_simple", f__law_simple, top 23⟩, ⟨"_law_some_hand", f__law_some_hand, top 24⟩, ⟨"_law_end", f__law_end, top 25⟩, ⟨"_law_part", f__law_part, top 26⟩, ⟨"_law_turned_body", f__law_turned_body, top 27⟩, ⟨"_law_turned_book", f__law_turned_book, top 28⟩, ⟨"_law_inner", f__law_inner, top 29⟩, ⟨"_law_simples", f__law_simples, top 30⟩, ⟨"_law_tplaces", f__law_tplaces, top 31⟩, ⟨"_law_tput", f__law_tput, top 32⟩, ⟨"_law_twords", f__law_twords, top 33⟩, ⟨"_law_tposts", f__law_tposts, top 34⟩, ⟨"_law_called", f__law_called, top 35⟩, ⟨"_law_tcalled", f__law_tcalled, top 36⟩, ⟨"_law_by_numbers", f__law_by_numbers, top 37⟩, ⟨"_law_anew", f__law_anew, top 38⟩, ⟨"_law_other_simple", f__law_other_simple, top 39⟩, ⟨"_law_one_sign", f__law_one_sign, top 40⟩, ⟨"_law_many_words", f__law_many_words, top 41⟩, ⟨"law", f_law, top 42⟩]
def loose0 : List PySem.Str := ["LETTERS", "HOME", "inner_turned", "words_in", "hands_in", "word_of", "words_by", "term_by", "part_by", "anew", "are_alike", "_law_cell_at", "_law_tape", "_law_digit", "_law_words", "_law_number", "_law_leaf", "_law_shares", "_law_less_one", "_law_parts", "_law_simple", "_law_some_hand", "_law_end", "_law_part", "_law_turned_body", "_law_turned_book", "_law_inner", "_law_simples", "_law_tplaces", "_law_tput"]
def loose1 : List PySem.Str := ["_law_twords", "_law_tposts", "_law_called", "_law_tcalled", "_law_by_numbers", "_law_anew", "_law_other_simple", "_law_one_sign", "_law_many_words"]
def loose : List PySem.Str := loose0 ++ loose1
theorem ok_all : ds.all (fun a => a.ok T) = true := by decide +kernel
theorem nd_all : (ds.map (·.name)).Nodup := by decide +kernel
abbrev lawR : PySem.W.OpenRow := PySem.W.OpenLaw.row PySem.Challenge.rw_whatnext_k24_alike_but_for_a_sign
abbrev hk : PySem.W.Hook := hookW 4 ds theGlo
def ob (s : PySem.W.SharedT) : AlW := obsWG 4 ds theGlo (HandSHeadRun.getT s)
theorem ob_eq (s : PySem.W.SharedT) : ob s = hk.obs s.abs := obsWG_eq (HandSHeadRun.getT_eq s)
theorem run (w : World) : HandSHeadRun.RunEq lawR (PySem.W.view lawR.prog [42]) hk ob 6000 loose w := by
  intro os
  kernel_rfl
end Wn
end
section
namespace Wn
open PySem
theorem glo_all : gloB theGloI theGlo = true := by decide +kernel
theorem pure_law : ∀ ns : List Int, ns.length ≤ 63 → Slim ns → ∃ M', calls T 100000 (140 + 1) "law" [.fl ns] [] = .ok (.bl true) M' :=
  fun ns h _ => (vlaw (wf := 100000) (k := 140 + 1) (by decide) (by decide) ns).elim fun outs e => law_of (T := VT) (gloB_ok glo_all) e
end Wn
end
open PySem PySem.W PySem.Calls PyProof.Rows
theorem PySem.Challenge.cw_whatnext_k24_alike_but_for_a_sign_holds : PySem.Challenge.rw_whatnext_k24_alike_but_for_a_sign.Holds := by
  w_on; o_law
  refine HandSHeadRun.head_any (r := OpenLaw.row PySem.Challenge.rw_whatnext_k24_alike_but_for_a_sign) (q := view (OpenLaw.row PySem.Challenge.rw_whatnext_k24_alike_but_for_a_sign).prog [42]) (H := Wn.hk) (ob := Wn.ob) (M := 6000) (loose := Wn.loose) (d := HandSHeadRun.topDef (OpenLaw.row PySem.Challenge.rw_whatnext_k24_alike_but_for_a_sign).prog 42) (kwd := []) Wn.ob_eq
    (by kernel_rfl) (fun s => by kernel_rfl) Wn.run (by kernel_rfl) (by kernel_rfl) (by kernel_rfl) (by rfl) (by first | assumption | decide +kernel) (by decide +kernel) ⟨rfl, rfl, rfl, rfl, rfl, by decide +kernel⟩ ?hw ?hc
  case hw => w_witness2
  case hc =>
    refine Wn.walk_end (l := PySem.Challenge.rw_whatnext_k24_alike_but_for_a_sign) (most := 63) (k := 140 + 1) (x := "script") (cx := fun w => L2.CX (PySem.Challenge.rw_whatnext_k24_alike_but_for_a_sign).prog w) rfl (by decide) (by kernel_rfl) ⟨rfl, by decide, by decide⟩ ?F (fun w H s e s' z => Wn.noCX H s e s' z)
    intro w mg fa h Y G hmg0
    obtain ⟨K, KX, c⟩ := Y
    have hmg : mg ("law" : PySem.Str) = some (.ref fa) := by
      have e : (HandSHeadRun.topDef (OpenLaw.row PySem.Challenge.rw_whatnext_k24_alike_but_for_a_sign).prog 42).name = ("law" : PySem.Str) := by kernel_rfl
      rw [← e]
      exact hmg0
    obtain ⟨fd, hb, hF⟩ := Wn.law_end (l := PySem.Challenge.rw_whatnext_k24_alike_but_for_a_sign) (w := w) (T := Wn.T) (wf := 100000) (k := 140) (a := ⟨"law", Wn.f_law, Wn.top 42⟩) (x := "script") KX G hmg c rfl rfl Wn.nd_all Wn.ok_all (by simp [Wn.ds]) rfl rfl
    exact ⟨K, fd, _, KX, hb, Wn.law_sp Wn.pure_law, hF⟩
