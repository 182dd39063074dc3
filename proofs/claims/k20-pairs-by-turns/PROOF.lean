import PyProof.Rows.All
import Wide.All
import OpenK.AllK
import Wide.FinOn
import HandS.ForMost
import HandS.Wide
import KE.DataEq
import KE.DataIsa
import HandS.NoneIn
import HandS.Words
import HandS.Ends
import HandS.EndBits
import PyProof.FitsInt
import HandS.IsInst
import HandS.SortInts
import HandS.TupAny
import HandS.Zip
import HandS.Style
import KE.DataMinMax
import HandS.More
import KE.DatumOrd
import HandS.Defaults
import PySem.Challenge.RW_turntell_k20_pairs_by_turns
set_option Elab.async false
set_option linter.all false
set_option maxRecDepth 100000
set_option maxHeartbeats 4000000
/-! MP1: a small Python over data: syntax, what it computes. -/
namespace MP
open PySem

/-- a value: data that never changes; a place in the store; a tuple that holds places -/
inductive Vl where
  | d (x : PyData)
  | loc (n : Nat)
  | mix (vs : List Vl)

/-- what stands in the store -/
inductive So where
  | lst (vs : List Vl)
  | ins (c : Str) (fs : List (Str × Vl))
  | dead

abbrev Sto := List So
abbrev Nv := List (Option Vl)

inductive O1 where
  | neg | isN | noN
  deriving DecidableEq
inductive O2 where
  | add | sub | mul | fdiv | mod | pow | eq | ne | lt | le | gt | ge | inn | nin | idx
  deriving DecidableEq
inductive Bi where
  | len | min2 | max2 | minL | maxL | sum | all | any | sorted | list | tuple | int | str | repr | abs
  deriving DecidableEq
/-- methods of a list that change it -/
inductive Lm where
  | append | extend | pop | popAt | reverse | clear
  deriving DecidableEq
/-- methods of a text, of a list, that change nothing -/
inductive Sm where
  | join
  deriving DecidableEq
/-- slices with a step: [::-1], [::2], [1::2] -/
inductive Sk where
  | rev | even | odd
  deriving DecidableEq
inductive Ty where
  | bool | int | str | list | tuple
  deriving DecidableEq
inductive Tg where
  | nil | cons (t : Tg) (r : Tg)
  | name (i : Nat)
  | tup (ts : Tg)

mutual
inductive Ex where
  | var (i : Nat)
  | cst (x : PyData)
  | glb (x : Str)
  | o1 (o : O1) (a : Ex)
  | o2 (o : O2) (a b : Ex)
  | bop (c : Bool) (as : Exs)
  | not_ (a : Ex)
  | ite (c a b : Ex)
  | chain (o p : O2) (a b c : Ex)
  | bi (f : Bi) (as : Exs)
  | maxD (a b : Ex)
  | inD (a : Ex) (x : Str)
  | ixD (x : Str) (a : Ex)
  | skS (a : Ex)
  | catS (a b : Ex)
  | isi (a : Ex) (ts : List Ty)
  | call (f : Str) (as : Exs)
  | callk (f : Str) (as : Exs) (ks : List Str) (zs : Exs)
  | mk (c : Str) (as : Exs)
  | meth (o : Ex) (m : Str) (as : Exs)
  | fld (o : Ex) (f : Str)
  | tup (as : Exs)
  | lst (z : Bool) (as : Exs)
  | sl (a : Ex) (lo hi : Ox)
  | sk (k : Sk) (a : Ex)
  | comp (z : Bool) (own : List Nat) (tg : Tg) (it : It) (c : Ox) (e : Ex)
  | comp2 (own own1 : List Nat) (tg : Tg) (it : It) (tg1 : Tg) (it1 : It) (e : Ex)
  | lm (m : Lm) (o : Ex) (as : Exs)
  | sm (m : Sm) (o : Ex) (as : Exs)
  | frz (a : Ex)
inductive Exs where
  | nil
  | cons (a : Ex) (r : Exs)
/-- a part that may be left out -/
inductive Ox where
  | no
  | so (a : Ex)
inductive It where
  | seq (a : Ex)
  | rng1 (a : Ex)
  | rng2 (a b : Ex)
  | rng3 (a b c : Ex)
  | zip (a b : Ex)
  | enum (a : Ex)
  | rev (a : Ex)
end

@[simp] def Exs.isNil : Exs → Bool
  | .nil => true
  | .cons _ _ => false

mutual
inductive Sm' where
  | asg (t : Tg) (e : Ex)
  | par (i j : Nat) (a b : Ex)
  | asgI (o i e : Ex)
  | asgF (o : Ex) (f : Str) (e : Ex)
  | aug (i : Nat) (o : O2) (e : Ex)
  | augI (o i : Ex) (p : O2) (e : Ex)
  | augF (o : Ex) (f : Str) (p : O2) (e : Ex)
  | ex (e : Ex)
  | ret (e : Ex)
  | retN
  | ifs (c : Ex) (a b : Sms)
  | for_ (t : Tg) (it : It) (b : Sms)
  | while_ (c : Ex) (b : Sms)
  | brk | cnt | pass
  | never
inductive Sms where
  | nil
  | cons (a : Sm') (r : Sms)
end

/-! ### what is computed -/
def bnd {α β : Type} (x : Option (α × Sto)) (f : α → Sto → Option β) : Option β := match x with
  | some p => f p.1 p.2
  | none => none
@[simp] theorem bnd_some {α β : Type} (a : α) (s : Sto) (f : α → Sto → Option β) : bnd (some (a, s)) f = f a s := rfl
@[simp] theorem bnd_none {α β : Type} (f : α → Sto → Option β) : bnd none f = none := rfl
theorem bnd_eq {α β : Type} {x : Option (α × Sto)} {f : α → Sto → Option β} {y : β} (h : bnd x f = some y) : ∃ a s, x = some (a, s) ∧ f a s = some y := by
  cases x with
  | none => cases h
  | some p => exact ⟨p.1, p.2, rfl, h⟩

/-- data of values that are all data -/
@[simp] def allD : List Vl → Option (List PyData)
  | [] => some []
  | .d x :: r => (allD r).map (x :: ·)
  | _ :: _ => none
@[simp] theorem allD_map : ∀ xs : List PyData, allD (xs.map Vl.d) = some xs
  | [] => rfl
  | x :: r => by
    show (allD (r.map Vl.d)).map (x :: ·) = _
    rw [allD_map r] <;> rfl
/-- (whether a tuple, its items) of a list or a tuple -/
def seqOf (s : Sto) : Vl → Option (Bool × List Vl)
  | .d (.list xs) => some (false, xs.map .d)
  | .d (.tuple xs) => some (true, xs.map .d)
  | .mix vs => some (true, vs)
  | .loc n => match s[n]? with
    | some (.lst vs) => some (false, vs)
    | _ => none
  | _ => none
/-- a list or tuple of data alone: (whether a tuple, the data) -/
@[simp] def flat (s : Sto) (v : Vl) : Option (Bool × List PyData) := match v with
  | .d (.list xs) => some (false, xs)
  | .d (.tuple xs) => some (true, xs)
  | .loc n => match s[n]? with
    | some (.lst vs) => match allD vs with
      | some xs => some (false, xs)
      | none => none
    | _ => none
  | _ => none
def allM (f : Vl → Option PyData) : List Vl → Option (List PyData)
  | [] => some []
  | v :: vs => match f v, allM f vs with
    | some x, some xs => some (x :: xs)
    | _, _ => none
/-- a value as data, the store seen through so deep -/
def datN (s : Sto) : Nat → Vl → Option PyData
  | 0, v => match v with
    | .d x => some x
    | _ => none
  | n + 1, v => match v with
    | .d x => some x
    | .loc i => match s[i]? with
      | some (.lst vs) => (allM (datN s n) vs).map .list
      | _ => none
    | .mix vs => (allM (datN s n) vs).map .tuple
def datV (s : Sto) (v : Vl) : Option PyData := match v with
  | .d x => some x
  | v => datN s 6 v

def intsOf : List PyData → Option (List Int)
  | [] => some []
  | .int i :: r => (intsOf r).map (i :: ·)
  | _ :: _ => none
def boolsOf : List PyData → Option (List Bool)
  | [] => some []
  | .bool i :: r => (boolsOf r).map (i :: ·)
  | _ :: _ => none
def strsOf : List PyData → Option (List Str)
  | [] => some []
  | .str i :: r => (strsOf r).map (i :: ·)
  | _ :: _ => none
@[simp] theorem intsOf_map : ∀ xs : List Int, intsOf (xs.map PyData.int) = some xs
  | [] => rfl
  | x :: r => by
    show (intsOf (r.map PyData.int)).map (x :: ·) = _
    rw [intsOf_map r] <;> rfl
@[simp] theorem boolsOf_map : ∀ xs : List Bool, boolsOf (xs.map PyData.bool) = some xs
  | [] => rfl
  | x :: r => by
    show (boolsOf (r.map PyData.bool)).map (x :: ·) = _
    rw [boolsOf_map r] <;> rfl
@[simp] theorem strsOf_map : ∀ xs : List Str, strsOf (xs.map PyData.str) = some xs
  | [] => rfl
  | x :: r => by
    show (strsOf (r.map PyData.str)).map (x :: ·) = _
    rw [strsOf_map r] <;> rfl

/-- data that may be compared: no dict, not too deep -/
@[simp] def okD (x : PyData) : Bool := x.plain && decide (x.depth ≤ 60)
/-- a product, a quotient, a rest that the model reckons -/
def mulOk (i j : Int) : Bool := decide (Builtin.Int.intBits i + Builtin.Int.intBits j ≤ 100000000)
def powOk (i j : Int) : Bool := decide (0 ≤ j) && decide (Builtin.Int.intBits i * j.toNat ≤ 100000000)
def divOk (j : Int) : Bool := decide (0 < j) && decide (j.natAbs.log2 < 9000)

/-- a def's own name: a second text of a def is called by its name and a stroke -/
def bs1 (f : Str) : Str := if f.cps.back? == some 39 || f.cps.back? == some 42 then ⟨f.cps.pop⟩ else f
/-- .. a def with parameters by name alone: by its name and a star -/
def bs (f : Str) : Str := bs1 (bs1 f)
/-- a def that is never called by places alone -/
def ko (f : Str) : Bool := f.cps.back? == some 42
/-- a text, so many times -/
def repS (z : Str) (n : Nat) : Str := ⟨(List.replicate n z.cps).foldl (· ++ ·) #[]⟩

def o2v (o : O2) (s : Sto) (a b : Vl) : Option Vl :=
  match o with
  | .add => match a, b with
    | .d (.int i), .d (.int j) => some (.d (.int (i + j)))
    | .d (.str i), .d (.str j) => if i.length + j.length ≤ sizeLine then some (.d (.str (i ++ j))) else none
    | _, _ => match flat s a, flat s b with
      | some (false, xs), some (false, ys) => if xs.length + ys.length ≤ sizeLine then some (.d (.list (xs ++ ys))) else none
      | _, _ => none
  | .sub => match a, b with
    | .d (.int i), .d (.int j) => some (.d (.int (i - j)))
    | _, _ => none
  | .mul => match a, b with
    | .d (.int i), .d (.int j) => if mulOk i j then some (.d (.int (i * j))) else none
    | .d (.str z), .d (.int k) => if 0 ≤ k ∧ k < 2 ^ 62 ∧ z.length * k.toNat ≤ 16000000 then some (.d (.str (repS z k.toNat))) else none
    | _, .d (.int k) => match flat s a with
      | some (false, xs) => if xs.length * k.toNat ≤ sizeLine ∧ -(2 ^ 62) ≤ k ∧ k < 2 ^ 62 then some (.d (.list (List.replicate k.toNat xs).flatten)) else none
      | _ => none
    | _, _ => none
  | .fdiv => match a, b with
    | .d (.int i), .d (.int j) => if divOk j then some (.d (.int (i / j))) else none
    | _, _ => none
  | .mod => match a, b with
    | .d (.int i), .d (.int j) => if 0 < j then some (.d (.int (i % j))) else none
    | _, _ => none
  | .pow => match a, b with
    | .d (.int i), .d (.int j) => if powOk i j then some (.d (.int (i ^ j.toNat))) else none
    | _, _ => none
  | .lt => match a, b with
    | .d (.int i), .d (.int j) => some (.d (.bool (decide (i < j))))
    | _, _ => none
  | .le => match a, b with
    | .d (.int i), .d (.int j) => some (.d (.bool (decide (i ≤ j))))
    | _, _ => none
  | .gt => match a, b with
    | .d (.int i), .d (.int j) => some (.d (.bool (decide (j < i))))
    | _, _ => none
  | .ge => match a, b with
    | .d (.int i), .d (.int j) => some (.d (.bool (decide (j ≤ i))))
    | _, _ => none
  | .eq => match datV s a, datV s b with
    | some x, some y => if okD x && okD y then some (.d (.bool (PyData.eqv x y))) else none
    | _, _ => none
  | .ne => match datV s a, datV s b with
    | some x, some y => if okD x && okD y then some (.d (.bool (!PyData.eqv x y))) else none
    | _, _ => none
  | .inn => match a, b with
    | .d (.str x), .d (.str y) => some (.d (.bool (!(Builtin.Str.occurrences y x 0 y.length 1).isEmpty)))
    | .d x, _ => match flat s b with
      | some (_, ys) => if okD x && okD (.list ys) then some (.d (.bool (ys.any fun y => PyData.eqv y x))) else none
      | _ => none
    | _, _ => none
  | .nin => match a, b with
    | .d (.str x), .d (.str y) => some (.d (.bool (!(!(Builtin.Str.occurrences y x 0 y.length 1).isEmpty))))
    | .d x, _ => match flat s b with
      | some (_, ys) => if okD x && okD (.list ys) then some (.d (.bool (!(ys.any fun y => PyData.eqv y x)))) else none
      | _ => none
    | _, _ => none
  | .idx => match a, b with
    | .d (.str z), .d (.int i) => if z.length ≤ sizeLine then (L2.atI z.cps.toList i).map fun c => .d (.str ⟨#[c]⟩) else none
    | _, .d (.int i) => match seqOf s a with
      | some (_, xs) => L2.atI xs i
      | _ => none
    | _, _ => none

/-- in place: numbers alone -/
def augv (o : O2) (a b : Vl) : Option Vl := match o, a, b with
  | .add, .d (.int i), .d (.int j) => some (.d (.int (i + j)))
  | .sub, .d (.int i), .d (.int j) => some (.d (.int (i - j)))
  | _, _, _ => none
@[simp] def o1v (o : O1) (a : Vl) : Option Vl :=
  match o with
  | .neg => match a with
    | .d (.int i) => some (.d (.int (-i)))
    | _ => none
  | .isN => match a with
    | .d .none => some (.d (.bool true))
    | _ => some (.d (.bool false))
  | .noN => match a with
    | .d .none => some (.d (.bool false))
    | _ => some (.d (.bool true))

def maxI : List Int → Int
  | [] => 0
  | [x] => x
  | x :: y :: r => max x (maxI (y :: r))
def minI : List Int → Int
  | [] => 0
  | [x] => x
  | x :: y :: r => min x (minI (y :: r))
def sortI (xs : List Int) : List Int := xs.mergeSort (fun a b => decide (a ≤ b))
/-- pairs of numbers, by the first ones, then by the second ones -/
def prD (p : Int × Int) : PyData := .tuple [.int p.1, .int p.2]
def pairsOf : List PyData → Option (List (Int × Int))
  | [] => some []
  | .tuple [.int a, .int b] :: r => (pairsOf r).map ((a, b) :: ·)
  | _ :: _ => none
def lexLe (p q : Int × Int) : Bool := decide (p.1 < q.1) || (decide (p.1 = q.1) && decide (p.2 ≤ q.2))
def sortP (xs : List (Int × Int)) : List (Int × Int) := xs.mergeSort lexLe
@[simp] theorem pairsOf_map : ∀ xs : List (Int × Int), pairsOf (xs.map prD) = some xs
  | [] => rfl
  | x :: r => by
    show (pairsOf (r.map prD)).map (x :: ·) = _
    rw [pairsOf_map r] <;> rfl

@[simp] def isSeq : PyData → Bool
  | .list _ => true
  | .tuple _ => true
  | _ => false
def showOk (x : PyData) : Bool := isSeq x && x.showable && !x.hasDict && decide (x.depth ≤ 60) && decide (x.shown.length ≤ sizeLine)

/-- a built-in's call: nothing changes -/
def biv (f : Bi) (s : Sto) (vs : List Vl) : Option Vl :=
  match f, vs with
  | .len, [.d (.str z)] => if z.length ≤ sizeLine then some (.d (.int z.length)) else none
  | .len, [v] => match seqOf s v with
    | some (_, xs) => some (.d (.int xs.length))
    | _ => none
  | .min2, [.d (.int i), .d (.int j)] => some (.d (.int (if j < i then j else i)))
  | .max2, [.d (.int i), .d (.int j)] => some (.d (.int (if j > i then j else i)))
  | .minL, [v] => match flat s v with
    | some (false, xs) => match intsOf xs with
      | some (n :: ns) => some (.d (.int (minI (n :: ns))))
      | _ => none
    | _ => none
  | .maxL, [v] => match flat s v with
    | some (false, xs) => match intsOf xs with
      | some (n :: ns) => some (.d (.int (maxI (n :: ns))))
      | _ => none
    | _ => none
  | .sum, [v] => match flat s v with
    | some (false, xs) => (intsOf xs).map fun ns => .d (.int ns.sum)
    | _ => none
  | .all, [v] => match flat s v with
    | some (false, xs) => (boolsOf xs).map fun bs => .d (.bool (bs.all id))
    | _ => none
  | .any, [v] => match flat s v with
    | some (false, xs) => (boolsOf xs).map fun bs => .d (.bool (bs.any id))
    | _ => none
  | .sorted, [v] => match flat s v with
    | some (false, xs) => match intsOf xs with
      | some ns => some (.d (.list ((sortI ns).map .int)))
      | none => (pairsOf xs).map fun ps => .d (.list ((sortP ps).map prD))
    | _ => none
  | .list, [v] => match flat s v with
    | some (_, xs) => some (.d (.list xs))
    | _ => none
  | .tuple, [v] => match flat s v with
    | some (_, xs) => some (.d (.tuple xs))
    | _ => none
  | .int, [.d (.int i)] => some (.d (.int i))
  | .int, [.d (.bool b)] => some (.d (.int (if b then 1 else 0)))
  | .str, [.d (.int i)] => if i.natAbs.log2 < 1920 then some (.d (.str (toString i))) else none
  | .repr, [v] => match datV s v with
    | some x => if showOk x then some (.d (.str x.shown)) else none
    | _ => none
  | .abs, [.d (.int i)] => some (.d (.int (if i < 0 then -i else i)))
  | _, _ => none

@[simp] def tyIs (s : Sto) (v : Vl) : Ty → Bool
  | .bool => match v with
    | .d (.bool _) => true
    | _ => false
  | .int => match v with
    | .d (.bool _) => true
    | .d (.int _) => true
    | _ => false
  | .str => match v with
    | .d (.str _) => true
    | _ => false
  | .list => match v with
    | .d (.list _) => true
    | _ => false
  | .tuple => match v with
    | .d (.tuple _) => true
    | .mix _ => true
    | _ => false
/-- isinstance: data alone -/
def isiv (s : Sto) (v : Vl) (ts : List Ty) : Option Vl := match v with
  | .d _ => some (.d (.bool (ts.any (tyIs s v))))
  | .loc n => match s[n]? with
    | some (.lst _) => some (.d (.bool (ts.any (· == .list))))
    | _ => none
  | .mix _ => some (.d (.bool (ts.any (· == .tuple))))

/-- a slice -/
def cutD {α : Type} (xs : List α) (lo hi : Option Int) : List α := (xs.drop (HT.sIx xs.length 0 lo)).take (HT.sIx xs.length xs.length hi - HT.sIx xs.length 0 lo)
def evens {α : Type} : List α → List α
  | [] => []
  | [x] => [x]
  | x :: _ :: r => x :: evens r
def skD {α : Type} (k : Sk) (xs : List α) : List α := match k with
  | .rev => xs.reverse
  | .even => evens xs
  | .odd => evens (xs.drop 1)
@[simp] def optI : Option Vl → Option (Option Int)
  | none => some none
  | some (.d (.int i)) => some (some i)
  | some _ => none

def lmv (m : Lm) (xs : List Vl) (vs : List Vl) : Option (Vl × List Vl) :=
  match m, vs with
  | .append, [v] => if xs.length < sizeLine then some (.d .none, xs ++ [v]) else none
  | .extend, [.d (.list ds)] => if xs.length + ds.length ≤ sizeLine then some (.d .none, xs ++ ds.map .d) else none
  | .pop, [] => match xs[xs.length - 1]? with
    | some v => some (v, xs.dropLast)
    | none => none
  | .popAt, [.d (.int i)] => match L2.ixN xs.length i with
    | some j => match xs[j]? with
      | some v => some (v, xs.eraseIdx j)
      | none => none
    | none => none
  | .reverse, [] => some (.d .none, xs.reverse)
  | .clear, [] => some (.d .none, [])
  | _, _ => none

def smv (m : Sm) (s : Sto) (o : Vl) (vs : List Vl) : Option Vl :=
  match m, o, vs with
  | .join, .d (.str x), [v] => match flat s v with
    | some (_, xs) => match strsOf xs with
      | some ys => if (ys.map Str.length).sum + x.length * ys.length ≤ sizeLine then some (.d (.str (Txt.join x ys))) else none
      | none => none
    | _ => none
  | _, _, _ => none

def frzVs (s : Sto) : List Vl → Option (List PyData × Sto)
  | [] => some ([], s)
  | .d x :: r => match frzVs s r with
    | some (ys, s') => some (x :: ys, s')
    | none => none
  | .loc n :: r => match s[n]? with
    | some (.lst vs) => match allD vs with
      | some xs => match frzVs (s.set n .dead) r with
        | some (ys, s') => some (.list xs :: ys, s')
        | none => none
      | none => none
    | _ => none
  | .mix _ :: _ => none
/-- made data for good: the list's place in the store is given up -/
def frzV (s : Sto) (v : Vl) : Option (PyData × Sto) := match v with
  | .d x => some (x, s)
  | .loc n => match s[n]? with
    | some (.lst vs) => match allD vs with
      | some xs => some (.list xs, s.set n .dead)
      | none => none
    | _ => none
  | .mix vs => match frzVs s vs with
    | some (ds, s') => some (.tuple ds, s')
    | none => none

@[simp] def tupV (vs : List Vl) : Vl := match allD vs with
  | some xs => .d (.tuple xs)
  | none => .mix vs

def wipeN (r : Nv) : List Nat → Nv
  | [] => r
  | i :: is => (wipeN r is).set i none

/-- a value goes to a target -/
@[simp] def bindT : Tg → Vl → Nv → Option Nv
  | .name i, v, r => some (r.set i (some v))
  | .tup ts, v, r => match v with
    | .d (.tuple xs) => bindTs ts (xs.map .d) r
    | .d (.list xs) => bindTs ts (xs.map .d) r
    | .mix vs => bindTs ts vs r
    | _ => none
  | _, _, _ => none
where bindTs : Tg → List Vl → Nv → Option Nv
  | .nil, [], r => some r
  | .cons t ts, v :: vs, r => (bindT t v r).bind fun r1 => bindTs ts vs r1
  | _, _, _ => none

/-- lists that a loop walks stand as they stood -/
def okG : List (Nat × List Vl) → Sto → Prop
  | [], _ => True
  | (n, vs) :: g, s => s[n]? = some (.lst vs) ∧ okG g s

inductive Fl where
  | nx (r : Nv) | rt (v : Vl) | bk (r : Nv) | ct (r : Nv)

/-- what a loop walks: the items, the places of lists that are walked -/
abbrev Wk := List Vl × List (Nat × List Vl)
@[simp] def wkOf (s : Sto) (v : Vl) : Option Wk := match v with
  | .d (.list xs) => some (xs.map .d, [])
  | .d (.tuple xs) => some (xs.map .d, [])
  | .d (.str z) => some (z.cps.toList.map fun c => .d (.str ⟨#[c]⟩), [])
  | .mix vs => some (vs, [])
  | .loc n => match s[n]? with
    | some (.lst vs) => some (vs, [(n, vs)])
    | _ => none
  | _ => none
def iota (lo : Int) (n : Nat) : List Vl := (List.range n).map fun (i : Nat) => Vl.d (PyData.int (lo + (i : Int)))

def smallI (i : Int) : Prop := -(2 ^ 62) ≤ i ∧ i < 2 ^ 62
instance (i : Int) : Decidable (smallI i) := by unfold smallI; exact inferInstance

open Classical in
noncomputable def okGb (g : List (Nat × List Vl)) (s : Sto) : Bool := decide (okG g s)

/-- a loop's turns -/
noncomputable def turns (g : List (Nat × List Vl)) (bd : Vl → Nv → Option Nv) (body : Nv → Sto → Option (Fl × Sto)) : List Vl → Nv → Sto → Option (Fl × Sto)
  | [], r, s => if okGb g s then some (.nx r, s) else none
  | v :: vs, r, s => if okGb g s then (bd v r).bind fun r1 => bnd (body r1 s) fun f s1 => match f with
      | .nx r2 => turns g bd body vs r2 s1
      | .ct r2 => turns g bd body vs r2 s1
      | .bk r2 => some (.nx r2, s1)
      | .rt x => some (.rt x, s1)
    else none
/-- a comprehension's turns -/
noncomputable def turnsC (g : List (Nat × List Vl)) (bd : Vl → Option Nv) (c : Nv → Sto → Option (Vl × Sto)) (e : Nv → Sto → Option (Vl × Sto)) : List Vl → Sto → Option (List Vl × Sto)
  | [], s => if okGb g s then some ([], s) else none
  | v :: vs, s => if okGb g s then (bd v).bind fun r1 => bnd (c r1 s) fun b s1 => match b with
      | .d (.bool true) => bnd (e r1 s1) fun x s2 => bnd (turnsC g bd c e vs s2) fun xs s3 => some (x :: xs, s3)
      | .d (.bool false) => turnsC g bd c e vs s1
      | _ => none
    else none
/-- the outer turns of a comprehension with two fors -/
noncomputable def turns2 (g : List (Nat × List Vl)) (bd : Vl → Option Nv) (inn : Nv → Sto → Option (List Vl × Sto)) : List Vl → Sto → Option (List Vl × Sto)
  | [], s => if okGb g s then some ([], s) else none
  | v :: vs, s => if okGb g s then (bd v).bind fun r1 => bnd (inn r1 s) fun xs s1 => bnd (turns2 g bd inn vs s1) fun ys s2 => some (xs ++ ys, s2)
    else none
def yes (_ : Nv) (s : Sto) : Option (Vl × Sto) := some (.d (.bool true), s)
/-- while, so many turns at most -/
def whl (c : Nv → Sto → Option (Vl × Sto)) (body : Nv → Sto → Option (Fl × Sto)) : Nat → Nv → Sto → Option (Fl × Sto)
  | 0, _, _ => none
  | n + 1, r, s => bnd (c r s) fun b s1 => match b with
    | .d (.bool true) => bnd (body r s1) fun f s2 => match f with
      | .nx r2 => whl c body n r2 s2
      | .ct r2 => whl c body n r2 s2
      | .bk r2 => some (.nx r2, s2)
      | .rt x => some (.rt x, s2)
    | .d (.bool false) => some (.nx r, s1)
    | _ => none

/-- a new list of these values: data for good (z), or in the store -/
def newL (z : Bool) (vs : List Vl) (s : Sto) : Option (Vl × Sto) :=
  if z then (allD vs).map fun xs => (.d (.list xs), s) else some (.loc s.length, s ++ [.lst vs])

/-- a slice: of data data, of a list with places a new list -/
def slcV (s : Sto) (x : Vl) (l h : Option Int) : Option (Vl × Sto) := match x with
  | .d (.str z) => if z.length ≤ sizeLine then some (.d (.str (L2.cutS z l h)), s) else none
  | .d (.list xs) => some (.d (.list (cutD xs l h)), s)
  | .d (.tuple xs) => some (.d (.tuple (cutD xs l h)), s)
  | .loc n => match s[n]? with
    | some (.lst vs) => match allD vs with
      | some xs => some (.d (.list (cutD xs l h)), s)
      | none => newL false (cutD vs l h) s
    | _ => none
  | _ => none
/-- an object's field -/
def fldV (s : Sto) (o : Vl) (f : Str) : Option Vl := match o with
  | .loc n => match s[n]? with
    | some (.ins _ fs) => fs.lookup f
    | _ => none
  | _ => none
def putS (s : Sto) (o : Vl) (f : Str) (v : Vl) (putf : Str → Vl → List (Str × Vl) → List (Str × Vl)) : Option Sto := match o with
  | .loc n => match s[n]? with
    | some (.ins c fs) => if fs.length < 1000 then some (s.set n (.ins c (putf f v fs))) else none
    | _ => none
  | _ => none
def putFv (f : Str) (v : Vl) : List (Str × Vl) → List (Str × Vl)
  | [] => [(f, v)]
  | (g, w) :: r => if f = g then (g, v) :: r else (g, w) :: putFv f v r

def isDct : PyData → Bool
  | .dict _ => true
  | _ => false
/-- what a dict with text keys holds at a text -/
def dget (kvs : List (PyData × PyData)) (z : Str) : Option PyData := (kvs.find? fun p => match p.1 with
  | .str y => y == z
  | _ => false).map (·.2)
/-- a text backwards -/
def revS (z : Str) : Str := ⟨z.cps.toList.reverse.toArray⟩
/-- what a body may use: the module's constants, calls of defs, methods, classes -/
structure Cn where
  con : Str → Option PyData
  run : Str → List Vl → Sto → Option (Vl × Sto)
  runk : Str → List Vl → List Str → List Vl → Sto → Option (Vl × Sto)
  make : Str → List Vl → Sto → Option (Vl × Sto)
  meth : Str → Vl → List Vl → Sto → Option (Vl × Sto)
  most : Nat

section
variable (G : Cn)
mutual
@[simp] noncomputable def evE : Ex → Nv → Sto → Option (Vl × Sto)
  | .var i, r, s => match r[i]? with
    | some (some v) => some (v, s)
    | _ => none
  | .cst x, _, s => some (.d x, s)
  | .glb x, _, s => match G.con x with
    | some d => if isDct d then none else some (.d d, s)
    | none => none
  | .inD a x, r, s => bnd (evE a r s) fun v s1 => match v, G.con x with
    | .d (.str z), some (.dict kvs) => some (.d (.bool (dget kvs z).isSome), s1)
    | _, _ => none
  | .ixD x a, r, s => bnd (evE a r s) fun v s1 => match v, G.con x with
    | .d (.str z), some (.dict kvs) => match dget kvs z with
      | some d => some (.d d, s1)
      | none => none
    | _, _ => none
  | .catS a b, r, s => bnd (evE a r s) fun x s1 => bnd (evE b r s1) fun y s2 => match flat s2 x, flat s2 y with
    | some (false, xs), some (false, ys) => if xs.length + ys.length ≤ sizeLine then newL false ((xs ++ ys).map .d) s2 else none
    | _, _ => none
  | .skS a, r, s => bnd (evE a r s) fun v s1 => match v with
    | .d (.str z) => if z.length ≤ sizeLine then some (.d (.str (revS z)), s1) else none
    | _ => none
  | .o1 o a, r, s => bnd (evE a r s) fun x s1 => match o1v o x with
    | some v => some (v, s1)
    | none => none
  | .o2 o a b, r, s => bnd (evE a r s) fun x s1 => bnd (evE b r s1) fun y s2 => match o2v o s2 x y with
    | some v => some (v, s2)
    | none => none
  | .bop c as, r, s => evB c as r s
  | .not_ a, r, s => bnd (evE a r s) fun x s1 => match x with
    | .d (.bool c) => some (.d (.bool (!c)), s1)
    | _ => none
  | .ite c a b, r, s => bnd (evE c r s) fun x s1 => match x with
    | .d (.bool true) => evE a r s1
    | .d (.bool false) => evE b r s1
    | _ => none
  | .chain o p a b c, r, s => bnd (evE a r s) fun x s1 => bnd (evE b r s1) fun y s2 => match o2v o s2 x y with
    | some (.d (.bool true)) => bnd (evE c r s2) fun z s3 => match o2v p s3 y z with
      | some v => some (v, s3)
      | none => none
    | some (.d (.bool false)) => some (.d (.bool false), s2)
    | _ => none
  | .bi f as, r, s => bnd (evEs as r s) fun vs s1 => match biv f s1 vs with
    | some v => some (v, s1)
    | none => none
  | .maxD a b, r, s => bnd (evE a r s) fun x s1 => bnd (evE b r s1) fun y s2 => match flat s2 x, y with
    | some (false, xs), .d (.int k) => match intsOf xs with
      | some [] => some (.d (.int k), s2)
      | some (n :: ns) => some (.d (.int (maxI (n :: ns))), s2)
      | none => none
    | _, _ => none
  | .isi a ts, r, s => bnd (evE a r s) fun x s1 => match isiv s1 x ts with
    | some v => some (v, s1)
    | none => none
  | .call f as, r, s => bnd (evEs as r s) fun vs s1 => G.run f vs s1
  | .callk f as ks zs, r, s => bnd (evEs as r s) fun vs s1 => bnd (evEs zs r s1) fun us s2 => G.runk f vs ks us s2
  | .mk c as, r, s => bnd (evEs as r s) fun vs s1 => G.make c vs s1
  | .meth o m as, r, s => bnd (evE o r s) fun x s1 => bnd (evEs as r s1) fun vs s2 => G.meth m x vs s2
  | .fld o f, r, s => bnd (evE o r s) fun x s1 => match fldV s1 x f with
    | some v => some (v, s1)
    | none => none
  | .tup as, r, s => bnd (evEs as r s) fun vs s1 => some (tupV vs, s1)
  | .lst z as, r, s => bnd (evEs as r s) fun vs s1 => newL z vs s1
  | .sl a lo hi, r, s => bnd (evE a r s) fun x s1 => bnd (evO lo r s1) fun l s2 => bnd (evO hi r s2) fun h s3 => match optI l, optI h with
    | some l', some h' => slcV s3 x l' h'
    | _, _ => none
  | .sk k a, r, s => bnd (evE a r s) fun x s1 => match flat s1 x with
    | some (false, xs) => some (.d (.list (skD k xs)), s1)
    | _ => none
  | .comp z own tg it c e, r, s => bnd (evI it r s) fun w s1 => bnd (turnsC w.2 (fun v => bindT tg v (wipeN r own)) (evC c) (evE e) w.1 s1) fun vs s2 =>
      if vs.length ≤ 16000000 ∧ w.1.length ≤ 16000000 then newL z vs s2 else none
  | .comp2 own own1 tg it tg1 it1 e, r, s => bnd (evI it r s) fun w s1 => bnd (turns2 w.2 (fun v => bindT tg v (wipeN r own)) (fun r1 s => bnd (evI it1 r1 s) fun w1 s1 => turnsC w1.2 (fun v => bindT tg1 v (wipeN r1 own1)) yes (evE e) w1.1 s1) w.1 s1) fun vs s2 =>
      if vs.length ≤ 16000000 then newL true vs s2 else none
  | .lm m o as, r, s => bnd (evE o r s) fun x s1 => match x with
    | .loc n => match s1[n]? with
      | some (.lst _) => bnd (evEs as r s1) fun vs s2 => match s2[n]? with
        | some (.lst xs) => match lmv m xs vs with
          | some (v, ys) => some (v, s2.set n (.lst ys))
          | none => none
        | _ => none
      | _ => none
    | _ => none
  | .sm m o as, r, s => bnd (evE o r s) fun x s1 => bnd (evEs as r s1) fun vs s2 => match smv m s2 x vs with
    | some v => some (v, s2)
    | none => none
  | .frz a, r, s => bnd (evE a r s) fun x s1 => match frzV s1 x with
    | some (y, s2) => some (.d y, s2)
    | none => none
@[simp] noncomputable def evEs : Exs → Nv → Sto → Option (List Vl × Sto)
  | .nil, _, s => some ([], s)
  | .cons a as, r, s => bnd (evE a r s) fun x s1 => bnd (evEs as r s1) fun xs s2 => some (x :: xs, s2)
/-- and (c true), or (c false), of truths alone -/
@[simp] noncomputable def evB (c : Bool) : Exs → Nv → Sto → Option (Vl × Sto)
  | .nil, _, _ => none
  | .cons a as, r, s => bnd (evE a r s) fun x s1 => match x with
    | .d (.bool b) => if as.isNil then some (.d (.bool b), s1) else if b = c then evB c as r s1 else some (.d (.bool b), s1)
    | _ => none
@[simp] noncomputable def evO : Ox → Nv → Sto → Option (Option Vl × Sto)
  | .no, _, s => some (none, s)
  | .so a, r, s => bnd (evE a r s) fun x s1 => some (some x, s1)
@[simp] noncomputable def evC : Ox → Nv → Sto → Option (Vl × Sto)
  | .no, _, s => some (.d (.bool true), s)
  | .so a, r, s => evE a r s
@[simp] noncomputable def evI : It → Nv → Sto → Option (Wk × Sto)
  | .seq a, r, s => bnd (evE a r s) fun x s1 => match wkOf s1 x with
    | some w => some (w, s1)
    | none => none
  | .rng1 a, r, s => bnd (evE a r s) fun x s1 => match x with
    | .d (.int n) => if smallI n then some ((iota 0 n.toNat, []), s1) else none
    | _ => none
  | .rng2 a b, r, s => bnd (evE a r s) fun x s1 => bnd (evE b r s1) fun y s2 => match x, y with
    | .d (.int m), .d (.int n) => if smallI m ∧ smallI n then some ((iota m (n - m).toNat, []), s2) else none
    | _, _ => none
  | .rng3 a b c, r, s => none
  | .zip a b, r, s => bnd (evE a r s) fun x s1 => bnd (evE b r s1) fun y s2 => match x, y with
    | .d (.list xs), .d (.list ys) => some (((xs.zip ys).map fun p => .d (.tuple [p.1, p.2]), []), s2)
    | .d (.tuple xs), .d (.tuple ys) => some (((xs.zip ys).map fun p => .d (.tuple [p.1, p.2]), []), s2)
    | .loc n, .d (.list ys) => match s2[n]? with
      | some (.lst vs) => match allD vs with
        | some xs => some (((xs.zip ys).map fun p => .d (.tuple [p.1, p.2]), [(n, vs)]), s2)
        | none => none
      | _ => none
    | .mix vs, .d (.tuple ys) => some (((vs.zip ys).map fun p => tupV [p.1, .d p.2], []), s2)
    | _, _ => none
  | .enum a, r, s => bnd (evE a r s) fun x s1 => match x with
    | .d (.list xs) => some ((xs.zipIdx.map fun p => .d (.tuple [.int p.2, p.1]), []), s1)
    | _ => none
  | .rev a, r, s => bnd (evE a r s) fun x s1 => match x with
    | .d (.list xs) => some ((xs.reverse.map .d, []), s1)
    | _ => none
end

mutual
@[simp] noncomputable def exS : Sm' → Nv → Sto → Option (Fl × Sto)
  | .asg t e, r, s => bnd (evE G e r s) fun v s1 => match bindT t v r with
    | some r1 => some (.nx r1, s1)
    | none => none
  | .par i j a b, r, s => bnd (evE G a r s) fun v s1 => bnd (evE G b r s1) fun w s2 => some (.nx ((r.set i (some v)).set j (some w)), s2)
  | .asgI o i e, r, s => bnd (evE G e r s) fun v s1 => bnd (evE G o r s1) fun x s2 => bnd (evE G i r s2) fun y s3 => match x, y with
    | .loc n, .d (.int k) => match s3[n]? with
      | some (.lst xs) => match L2.ixN xs.length k with
        | some j => some (.nx r, s3.set n (.lst (xs.set j v)))
        | none => none
      | _ => none
    | _, _ => none
  | .asgF o f e, r, s => bnd (evE G e r s) fun v s1 => bnd (evE G o r s1) fun x s2 => match putS s2 x f v putFv with
    | some s3 => some (.nx r, s3)
    | none => none
  | .aug i o e, r, s => match r[i]? with
    | some (some x) => bnd (evE G e r s) fun y s1 => match augv o x y with
      | some z => some (.nx (r.set i (some z)), s1)
      | none => none
    | _ => none
  | .augI o i p e, r, s => bnd (evE G o r s) fun x s1 => bnd (evE G i r s1) fun k s2 => match o2v .idx s2 x k with
    | some old => bnd (evE G e r s2) fun y s3 => match augv p old y with
      | some z => match x, k with
        | .loc n, .d (.int k) => match s3[n]? with
          | some (.lst xs) => match L2.ixN xs.length k with
            | some j => some (.nx r, s3.set n (.lst (xs.set j z)))
            | none => none
          | _ => none
        | _, _ => none
      | none => none
    | none => none
  | .augF o f p e, r, s => bnd (evE G o r s) fun x s1 => match fldV s1 x f with
    | some old => bnd (evE G e r s1) fun y s2 => match augv p old y with
      | some z => match putS s2 x f z putFv with
        | some s3 => some (.nx r, s3)
        | none => none
      | none => none
    | none => none
  | .ex e, r, s => bnd (evE G e r s) fun _ s1 => some (.nx r, s1)
  | .ret e, r, s => bnd (evE G e r s) fun v s1 => some (.rt v, s1)
  | .retN, _, s => some (.rt (.d .none), s)
  | .ifs c a b, r, s => bnd (evE G c r s) fun x s1 => match x with
    | .d (.bool true) => exB a r s1
    | .d (.bool false) => exB b r s1
    | _ => none
  | .for_ t it b, r, s => bnd (evI G it r s) fun w s1 => turns w.2 (fun v r => bindT t v r) (exB b) w.1 r s1
  | .while_ c b, r, s => whl (evE G c) (exB b) G.most r s
  | .brk, r, s => some (.bk r, s)
  | .cnt, r, s => some (.ct r, s)
  | .pass, r, s => some (.nx r, s)
  | .never, _, _ => none
@[simp] noncomputable def exB : Sms → Nv → Sto → Option (Fl × Sto)
  | .nil, r, s => some (.nx r, s)
  | .cons a as, r, s => bnd (exS a r s) fun f s1 => match f with
    | .nx r1 => exB as r1 s1
    | f => some (f, s1)
end
end

/-- a def: how many parameters, how many names, its body; clean: its arguments are data, its answer is data, nothing else is seen or changed -/
structure Df where
  np : Nat
  ns : Nat
  body : Sms
  clean : Bool
  ps : List Str := []
  df : List (Str × PyData) := []

/-- no place from k on -/
def below (k : Nat) : Vl → Bool
  | .d _ => true
  | .loc n => decide (n < k)
  | .mix vs => belows k vs
where belows (k : Nat) : List Vl → Bool
  | [] => true
  | v :: r => below k v && belows k r
def belowO (k : Nat) : So → Bool
  | .lst vs => below.belows k vs
  | .ins _ fs => below.belows k (fs.map (·.2))
  | .dead => true
/-- behind a def that shares the store: what it made and nobody keeps is forgotten -/
def trim (k : Nat) (v : Vl) (s : Sto) : Vl × Sto := if below k v && (s.take k).all (belowO k) then (v, s.take k) else (v, s)

@[simp] def outOf : Fl → Option Vl
  | .rt v => some v
  | .nx _ => some (.d .none)
  | _ => none

def atomD : PyData → Bool
  | .none => true
  | .bool _ => true
  | .int _ => true
  | .str _ => true
  | _ => false
noncomputable def runD (G : Cn) (D : Df) (vs : List Vl) (s : Sto) : Option (Vl × Sto) :=
  if vs.length = D.np then
    if D.clean then match allD vs with
      | some _ => match exB G D.body (vs.map some ++ List.replicate (D.ns - D.np) none) [] with
        | some (f, _) => match outOf f with
          | some (.d x) => some (.d x, s)
          | _ => none
        | none => none
      | none => match allM (datV s) vs with
        | some ds => match exB G D.body ((ds.map .d).map some ++ List.replicate (D.ns - D.np) none) [] with
          | some (f, _) => match outOf f with
            | some (.d x) => if atomD x then some (.d x, s) else none
            | _ => none
          | none => none
        | none => none
    else match exB G D.body (vs.map some ++ List.replicate (D.ns - D.np) none) s with
      | some (f, s1) => match outOf f with
        | some v => some (trim s.length v s1)
        | none => none
      | none => none
  else none

/-- keywords laid to their places: for each parameter behind the given ones the keyword of its name -/
def pickK (ks : List Str) : List Str → Option (List Nat)
  | [] => some []
  | p :: ps => match ks.findIdx? (· == p) with
    | some i => (pickK ks ps).map (i :: ·)
    | none => none
def takeK {α : Type} (us : List α) : List Nat → Option (List α)
  | [] => some []
  | i :: is => match us[i]? with
    | some u => (takeK us is).map (u :: ·)
    | none => none
/-- a module: its defs, its constants, how many turns a while may take, the calls with keywords -/
structure Md where
  tb : Str → Option Df
  con : Str → Option PyData
  most : Nat
  kp : List (Str × Nat × List Str) := []

/-- calls, so deep at most -/
noncomputable def lev (M : Md) : Nat → Str → List Vl → Sto → Option (Vl × Sto)
  | 0, _, _, _ => none
  | 1, f, vs, s => match M.tb f with
    | some D => runD ⟨M.con, fun _ _ _ => none, fun _ _ _ _ _ => none, fun _ _ _ => none, fun _ _ _ _ => none, M.most⟩ D vs s
    | none => none
  | k + 2, f, vs, s => match M.tb f with
    | some D => runD ⟨M.con, lev M (k + 1),
        fun g as ks us s => match M.tb g with
          | some E => if (g, as.length, ks) ∈ M.kp then match pickK (ks ++ E.df.map (·.1)) (E.ps.drop as.length) with
            | some is => match takeK (us ++ E.df.map fun q => Vl.d q.2) is with
              | some ws => lev M (k + 1) g (as ++ ws) s
              | none => none
            | none => none else none
          | none => none,
        fun c as s => bnd (lev M k (c ++ ".__init__") (.loc s.length :: as) (s ++ [.ins c []])) fun v s1 => match v with
          | .d .none => some (.loc s.length, s1)
          | _ => none,
        fun m o as s => match o with
          | .loc n => match s[n]? with
            | some (.ins c fs) => if (fs.lookup m).isNone then lev M (k + 1) (c ++ "." ++ m) (o :: as) s else none
            | _ => none
          | _ => none,
        M.most⟩ D vs s
    | none => none

end MP

/-! MP2: how values and the store stand in the abstract heap. -/
namespace MP
open PySem PySem.Spec PyProof.Rows L2

/-- F: what never changes; ph: where the store's things stand -/
structure Gh where
  F : Hp
  ph : List Addr

theorem sqT_same {K : PySem.W.Frag} {H H' : Hp} {a : Addr} {xs : List V} (e : Same H H') (h : SqT K H a xs) : SqT K H' a xs := by
  rcases h with (h | ⟨o, h⟩) | h
  · exact .inl (.inl (e _ _ h))
  · exact .inl (.inr ⟨o, e _ _ h⟩)
  · exact .inr h
mutual
theorem dp_same {K : PySem.W.Frag} {H H' : Hp} (e : Same H H') : ∀ {v : V} {x : PyData}, Dp K H v x → Dp K H' v x
  | _, _, .non => .non
  | _, _, .bl b => .bl b
  | _, _, .int i => .int i
  | _, _, .str x => .str x
  | _, _, .lst h a => .lst (e.seq h) (dpAll_same e a)
  | _, _, .tup h a => .tup (sqT_same e h) (dpAll_same e a)
theorem dpAll_same {K : PySem.W.Frag} {H H' : Hp} (e : Same H H') : ∀ {vs : List V} {xs : List PyData}, DpAll K H vs xs → DpAll K H' vs xs
  | _, _, .nil => .nil
  | _, _, .cons a r => .cons (dp_same e a) (dpAll_same e r)
end

mutual
inductive RepV (K : PySem.W.Frag) (g : Gh) : V → Vl → Prop
  | d {v : V} {x : PyData} : Dp K g.F v x → RepV K g v (.d x)
  | loc {n : Nat} {a : Addr} : g.ph[n]? = some a → RepV K g (.ref a) (.loc n)
  | mix {a : Addr} {xs : List V} {vs : List Vl} : SqT K g.F a xs → RepVs K g xs vs → RepV K g (.ref a) (.mix vs)
inductive RepVs (K : PySem.W.Frag) (g : Gh) : List V → List Vl → Prop
  | nil : RepVs K g [] []
  | cons {v : V} {vs : List V} {x : Vl} {xs : List Vl} : RepV K g v x → RepVs K g vs xs → RepVs K g (v :: vs) (x :: xs)
end

theorem pre_get {α : Type} {a b : List α} (h : a <+: b) {n : Nat} {x : α} (e : a[n]? = some x) : b[n]? = some x := by
  obtain ⟨c, rfl⟩ := h
  rw [List.getElem?_append_left (List.getElem?_eq_some_iff.mp e).1]
  exact e
mutual
theorem repV_le {K : PySem.W.Frag} {g g' : Gh} (e : Same g.F g'.F) (p : g.ph <+: g'.ph) : ∀ {v : V} {x : Vl}, RepV K g v x → RepV K g' v x
  | _, _, .d h => .d (dp_same e h)
  | _, _, .loc h => .loc (pre_get p h)
  | _, _, .mix h a => .mix (sqT_same e h) (repVs_le e p a)
theorem repVs_le {K : PySem.W.Frag} {g g' : Gh} (e : Same g.F g'.F) (p : g.ph <+: g'.ph) : ∀ {vs : List V} {xs : List Vl}, RepVs K g vs xs → RepVs K g' vs xs
  | _, _, .nil => .nil
  | _, _, .cons a r => .cons (repV_le e p a) (repVs_le e p r)
end
theorem RepVs.length {K : PySem.W.Frag} {g : Gh} : ∀ {vs : List V} {xs : List Vl}, RepVs K g vs xs → vs.length = xs.length
  | _, _, .nil => rfl
  | _, _, .cons _ r => congrArg (· + 1) r.length
theorem RepVs.get {K : PySem.W.Frag} {g : Gh} : ∀ {vs : List V} {xs : List Vl} {i : Nat} {x : Vl}, RepVs K g vs xs → xs[i]? = some x → ∃ v, vs[i]? = some v ∧ RepV K g v x
  | _, _, _, _, .nil, e => by simp at e
  | _, _, 0, x, .cons a _, e => by
    simp at e
    subst e
    exact ⟨_, rfl, a⟩
  | _, _, i + 1, x, .cons _ r, e => by
    obtain ⟨v, h1, h2⟩ := RepVs.get (i := i) r (by simpa using e)
    exact ⟨v, by simpa using h1, h2⟩
theorem RepVs.append {K : PySem.W.Frag} {g : Gh} {us : List V} {ys : List Vl} (q : RepVs K g us ys) : ∀ {vs : List V} {xs : List Vl}, RepVs K g vs xs → RepVs K g (vs ++ us) (xs ++ ys)
  | _, _, .nil => q
  | _, _, .cons a r => .cons a (RepVs.append q r)
theorem RepVs.set {K : PySem.W.Frag} {g : Gh} {v : V} {x : Vl} (q : RepV K g v x) : ∀ {vs : List V} {xs : List Vl} (i : Nat), RepVs K g vs xs → RepVs K g (vs.set i v) (xs.set i x)
  | _, _, _, .nil => .nil
  | _, _, 0, .cons _ r => .cons q r
  | _, _, i + 1, .cons a r => .cons a (RepVs.set q i r)
theorem RepVs.dropLast {K : PySem.W.Frag} {g : Gh} : ∀ {vs : List V} {xs : List Vl}, RepVs K g vs xs → RepVs K g vs.dropLast xs.dropLast
  | _, _, .nil => .nil
  | _, _, .cons _ .nil => .nil
  | _, _, .cons a (.cons b r) => .cons a (RepVs.dropLast (.cons b r))
theorem RepVs.eraseIdx {K : PySem.W.Frag} {g : Gh} : ∀ {vs : List V} {xs : List Vl} (i : Nat), RepVs K g vs xs → RepVs K g (vs.eraseIdx i) (xs.eraseIdx i)
  | _, _, _, .nil => .nil
  | _, _, 0, .cons _ r => r
  | _, _, i + 1, .cons a r => .cons a (RepVs.eraseIdx i r)
theorem RepVs.reverse {K : PySem.W.Frag} {g : Gh} : ∀ {vs : List V} {xs : List Vl}, RepVs K g vs xs → RepVs K g vs.reverse xs.reverse
  | _, _, .nil => .nil
  | _, _, .cons a r => by
    rw [List.reverse_cons, List.reverse_cons]
    exact RepVs.append (.cons a .nil) (RepVs.reverse r)
/-- data alone -/
theorem RepVs.data {K : PySem.W.Frag} {g : Gh} : ∀ {vs : List V} {xs : List Vl} {ds : List PyData}, RepVs K g vs xs → allD xs = some ds → DpAll K g.F vs ds
  | _, _, _, .nil, e => by cases e; exact .nil
  | _, _, _, .cons (x := x) (xs := xs) a r, e => by
    cases x with
    | d y =>
      have e' : (allD xs).map (y :: ·) = some _ := e
      cases h : allD xs with
      | none => rw [h] at e'; cases e'
      | some zs =>
        rw [h] at e'
        cases e'
        cases a with
        | d a => exact .cons a (RepVs.data r h)
    | loc n => cases e
    | mix vs => cases e
theorem RepVs.ofData {K : PySem.W.Frag} {g : Gh} : ∀ {vs : List V} {ds : List PyData}, DpAll K g.F vs ds → RepVs K g vs (ds.map .d)
  | _, _, .nil => .nil
  | _, _, .cons a r => .cons (.d a) (RepVs.ofData r)

/-- the fields of an object -/
inductive FsR (K : PySem.W.Frag) (g : Gh) : List (Str × V) → List (Str × Vl) → Prop
  | nil : FsR K g [] []
  | cons {f : Str} {v : V} {x : Vl} {vs : List (Str × V)} {xs : List (Str × Vl)} : RepV K g v x → FsR K g vs xs → FsR K g ((f, v) :: vs) ((f, x) :: xs)
theorem fsR_le {K : PySem.W.Frag} {g g' : Gh} (e : Same g.F g'.F) (p : g.ph <+: g'.ph) : ∀ {vs : List (Str × V)} {xs : List (Str × Vl)}, FsR K g vs xs → FsR K g' vs xs
  | _, _, .nil => .nil
  | _, _, .cons a r => .cons (repV_le e p a) (fsR_le e p r)

theorem nd_inj {α : Type} {l : List α} (h : l.Nodup) {i j : Nat} {a : α} (hi : l[i]? = some a) (hj : l[j]? = some a) : i = j := by
  obtain ⟨h1, e1⟩ := List.getElem?_eq_some_iff.mp hi
  obtain ⟨h2, e2⟩ := List.getElem?_eq_some_iff.mp hj
  rcases Nat.lt_trichotomy i j with q | q | q
  · exact absurd (e1.trans e2.symm) (List.pairwise_iff_getElem.mp h i j h1 h2 q)
  · exact q
  · exact absurd (e2.trans e1.symm) (List.pairwise_iff_getElem.mp h j i h2 h1 q)
def ObjR (K : PySem.W.Frag) (mg : Str → Option Value) (g : Gh) (H : Hp) (a : Addr) : So → Prop
  | .lst vs => g.F a = none ∧ ∃ xs, H a = some (.lst xs) ∧ RepVs K g xs vs
  | .ins c fs => g.F a = none ∧ ∃ C dx ys, H a = some (.ins C dx ys) ∧ mg c = some (.ref C) ∧ FsR K g ys fs
  | .dead => ∃ o, g.F a = some o

/-- the store in the heap -/
structure RlS (K : PySem.W.Frag) (mg : Str → Option Value) (g : Gh) (s : Sto) (H : Hp) : Prop where
  fro : Same g.F H
  len : g.ph.length = s.length
  nd : g.ph.Nodup
  obj : ∀ (n : Nat) (a : Addr) (o : So), g.ph[n]? = some a → s[n]? = some o → ObjR K mg g H a o

/-- names -/
def Sl (K : PySem.W.Frag) (g : Gh) (σ : L2.St) (r : Nv) : Prop := σ.length = r.length ∧ ∀ (i : Nat) (x : Vl), r[i]? = some (some x) → ∃ v, σ[i]? = some (some v) ∧ RepV K g v x
structure StR (K : PySem.W.Frag) (mg : Str → Option Value) (g : Gh) (r : Nv) (s : Sto) (σ : L2.St) (H : Hp) : Prop where
  st : RlS K mg g s H
  env : Sl K g σ r

/-- what a step may do to the heap -/
structure Stp (g : Gh) (H : Hp) (g' : Gh) (H' : Hp) : Prop where
  sub : ∀ a o, H a = some o → a ∉ g.ph → H' a = some o
  fr : Same g.F g'.F
  nf : ∀ a, g'.F a ≠ none → g.F a ≠ none ∨ H a = none ∨ a ∈ g.ph
  pre : g.ph <+: g'.ph
  nl : ∀ a ∈ g'.ph, a ∈ g.ph ∨ H a = none

theorem Stp.refl (g : Gh) (H : Hp) : Stp g H g H := ⟨fun _ _ h _ => h, Same.refl _, fun _ h => .inl h, List.prefix_refl _, fun _ h => .inl h⟩
theorem Stp.trans {g g' g'' : Gh} {H H' H'' : Hp} (p : Stp g H g' H') (q : Stp g' H' g'' H'') : Stp g H g'' H'' := by
  have back : ∀ a, H' a = none → H a = none ∨ a ∈ g.ph := fun a h => by
    by_cases hm : a ∈ g.ph
    · exact .inr hm
    · cases e : H a with
      | none => exact .inl rfl
      | some o =>
        have := p.sub a o e hm
        rw [h] at this
        cases this
  refine ⟨fun a o h hm => q.sub a o (p.sub a o h hm) fun h2 => ?_, p.fr.trans q.fr, fun a h => ?_, p.pre.trans q.pre, fun a h => ?_⟩
  · rcases p.nl a h2 with h3 | h3
    · exact hm h3
    · rw [h] at h3
      cases h3
  · rcases q.nf a h with h | h | h
    · exact p.nf a h
    · rcases back a h with h | h
      · exact .inr (.inl h)
      · exact .inr (.inr h)
    · rcases p.nl a h with h | h
      · exact .inr (.inr h)
      · exact .inr (.inl h)
  · rcases q.nl a h with h | h
    · exact p.nl a h
    · rcases back a h with h | h
      · exact .inr h
      · exact .inl h
section
variable {K : PySem.W.Frag} {mg : Str → Option Value} {g g' : Gh} {H H' : Hp} {s : Sto} {r : Nv} {σ : L2.St}
theorem Stp.rep (p : Stp g H g' H') {v : V} {x : Vl} (h : RepV K g v x) : RepV K g' v x := repV_le p.fr p.pre h
theorem Stp.reps (p : Stp g H g' H') {v : List V} {x : List Vl} (h : RepVs K g v x) : RepVs K g' v x := repVs_le p.fr p.pre h
theorem Stp.sl (p : Stp g H g' H') (h : Sl K g σ r) : Sl K g' σ r := ⟨h.1, fun i x e => let ⟨v, h1, h2⟩ := h.2 i x e; ⟨v, h1, p.rep h2⟩⟩
theorem RlS.live (h : RlS K mg g s H) {n : Nat} {a : Addr} (e : g.ph[n]? = some a) : ∃ o, s[n]? = some o ∧ ObjR K mg g H a o := by
  have hl : n < s.length := by rw [← h.len]; exact (List.getElem?_eq_some_iff.mp e).1
  exact ⟨s[n], List.getElem?_eq_getElem hl, h.obj n a _ e (List.getElem?_eq_getElem hl)⟩
theorem RlS.there (h : RlS K mg g s H) {a : Addr} (e : a ∈ g.ph) : H a ≠ none := by
  obtain ⟨n, hn, rfl⟩ := List.getElem_of_mem e
  obtain ⟨o, _, q⟩ := h.live (List.getElem?_eq_getElem hn)
  cases o with
  | lst vs => obtain ⟨_, xs, q, _⟩ := q; rw [q]; simp
  | ins c fs => obtain ⟨_, _, _, _, q, _⟩ := q; rw [q]; simp
  | dead => obtain ⟨o, q⟩ := q; rw [h.fro _ _ q]; simp
theorem RlS.at (h : RlS K mg g s H) {n : Nat} {o : So} (e : s[n]? = some o) : ∃ a, g.ph[n]? = some a ∧ ObjR K mg g H a o := by
  have hl : n < g.ph.length := by rw [h.len]; exact (List.getElem?_eq_some_iff.mp e).1
  exact ⟨g.ph[n], List.getElem?_eq_getElem hl, h.obj n _ o (List.getElem?_eq_getElem hl) e⟩
theorem objR_grow {a : Addr} {o : So} (e : Same H H') (h : ObjR K mg g H a o) : ObjR K mg g H' a o := by
  cases o with
  | lst vs => obtain ⟨f, xs, q, r⟩ := h; exact ⟨f, xs, e _ _ q, r⟩
  | ins c fs => obtain ⟨f, C, dx, ys, q, r⟩ := h; exact ⟨f, C, dx, ys, e _ _ q, r⟩
  | dead => exact h
/-- the heap grows -/
theorem RlS.grow (h : RlS K mg g s H) (e : Same H H') : RlS K mg g s H' := ⟨h.fro.trans e, h.len, h.nd, fun n a o h1 h2 => objR_grow e (h.obj n a o h1 h2)⟩
theorem same_new {p : Addr} {o : HO} (h : H p = none) : Same H (upd H p o) := fun b x e => by
  rw [upd_ne (ne_of_none e h)]
  exact e
theorem Stp.grow (e : Same H H') : Stp g H g H' := ⟨fun _ _ h _ => e _ _ h, Same.refl _, fun _ h => .inl h, List.prefix_refl _, fun _ h => .inl h⟩
theorem upd_none {p a : Addr} {o : HO} (h : a ≠ p) (e : H a = none) : upd H p o a = none := by rw [upd_ne h]; exact e
theorem objR_le {a : Addr} {o : So} (e : Same g.F g'.F) (p : g.ph <+: g'.ph) (hf : g.F a = none → g'.F a = none) (h : ObjR K mg g H a o) : ObjR K mg g' H a o := by
  cases o with
  | lst vs => obtain ⟨f, xs, q, r⟩ := h; exact ⟨hf f, xs, q, repVs_le e p r⟩
  | ins c fs => obtain ⟨f, C, dx, ys, q, q2, r⟩ := h; exact ⟨hf f, C, dx, ys, q, q2, fsR_le e p r⟩
  | dead => obtain ⟨o, q⟩ := h; exact ⟨o, e _ _ q⟩
/-- a new thing that never changes -/
theorem RlS.froze (h : RlS K mg g s H) {p : Addr} {o : HO} (hp : H p = none) : RlS K mg ⟨upd g.F p o, g.ph⟩ s (upd H p o) ∧ Stp g H ⟨upd g.F p o, g.ph⟩ (upd H p o) := by
  have hF : g.F p = none := h.fro.free hp
  refine ⟨⟨fun b x e => ?_, h.len, h.nd, fun n a u h1 h2 => ?_⟩, ⟨fun a u e hm => same_new hp _ _ e, same_new hF, fun a e => ?_, List.prefix_refl _, fun _ h => .inl h⟩⟩
  · show upd H p o b = some x
    have e' : upd g.F p o b = some x := e
    by_cases hb : b = p
    · subst hb
      rw [upd_same] at e' ⊢
      exact e'
    · rw [upd_ne hb] at e' ⊢
      exact h.fro _ _ e'
  · have hne : a ≠ p := fun z => h.there (List.mem_of_getElem? h1) (z ▸ hp)
    exact objR_le (g := g) (g' := ⟨upd g.F p o, g.ph⟩) (same_new hF) (List.prefix_refl _) (fun e => upd_none hne e) (objR_grow (same_new hp) (h.obj n a u h1 h2))
  · by_cases hb : a = p
    · exact .inr (.inl (hb ▸ hp))
    · have e' : upd g.F p o a ≠ none := e
      rw [upd_ne hb] at e'
      exact .inl e'
/-- a thing that H tracks already, and the store does not have, never changes from now on -/
theorem RlS.froze2 (h : RlS K mg g s H) {p : Addr} {o : HO} (hp : H p = some o) (hn : p ∉ g.ph) (hF : g.F p = none) : RlS K mg ⟨upd g.F p o, g.ph⟩ s H := by
  refine ⟨fun b x e => ?_, h.len, h.nd, fun n a u h1 h2 => ?_⟩
  · have e' : upd g.F p o b = some x := e
    by_cases hb : b = p
    · subst hb
      rw [upd_same] at e'
      rw [hp]
      exact e'
    · rw [upd_ne hb] at e'
      exact h.fro _ _ e'
  · have hne : a ≠ p := fun z => hn (z ▸ List.mem_of_getElem? h1)
    exact objR_le (g := g) (g' := ⟨upd g.F p o, g.ph⟩) (same_new hF) (List.prefix_refl _) (fun e => upd_none hne e) (h.obj n a u h1 h2)
/-- a thing that H tracks already goes to the store -/
theorem RlS.take2 (h : RlS K mg g s H) {p : Addr} {xs : List V} {vs : List Vl} (hp : H p = some (.lst xs)) (hn : p ∉ g.ph) (hF : g.F p = none) (hr : RepVs K g xs vs) : RlS K mg ⟨g.F, g.ph ++ [p]⟩ (s ++ [.lst vs]) H := by
  refine ⟨h.fro, by simp [h.len], ?_, fun n a o h1 h2 => ?_⟩
  · show (g.ph ++ [p]).Nodup
    rw [List.nodup_append]
    exact ⟨h.nd, by simp, fun a ha b hb => by
      have : b = p := by simpa using hb
      subst this
      exact fun z => hn (z ▸ ha)⟩
  · have h1' : (g.ph ++ [p])[n]? = some a := h1
    by_cases hlt : n < g.ph.length
    · rw [List.getElem?_append_left hlt] at h1'
      rw [List.getElem?_append_left (by rw [← h.len]; exact hlt)] at h2
      exact objR_le (g := g) (g' := ⟨g.F, g.ph ++ [p]⟩) (Same.refl _) (List.prefix_append _ _) (fun e => e) (h.obj n a o h1' h2)
    · rw [List.getElem?_append_right (by omega)] at h1'
      rw [List.getElem?_append_right (by have := h.len; omega)] at h2
      rw [h.len] at h1'
      cases hz : n - s.length with
      | zero =>
        rw [hz] at h1' h2
        simp at h1' h2
        subst h1' h2
        exact ⟨hF, xs, hp, repVs_le (g := g) (g' := ⟨g.F, g.ph ++ [p]⟩) (Same.refl _) (List.prefix_append _ _) hr⟩
      | succ m =>
        rw [hz] at h1'
        simp at h1'
/-- a list in the store is written -/
theorem RlS.put (h : RlS K mg g s H) {n : Nat} {a : Addr} {ys : List V} {o : So} (hn : g.ph[n]? = some a) (hF : g.F a = none) {u : HO} (hu : ∀ H, H a = some u → ObjR K mg g H a o) : RlS K mg g (s.set n o) (upd H a u) ∧ Stp g H g (upd H a u) := by
  have hm : a ∈ g.ph := List.mem_of_getElem? hn
  refine ⟨⟨fun b x e => ?_, by simp [h.len], h.nd, fun m b p h1 h2 => ?_⟩, ⟨fun b p e hb => ?_, Same.refl _, fun _ z => .inl z, List.prefix_refl _, fun _ z => .inl z⟩⟩
  · rw [upd_ne (fun z => by rw [z, hF] at e; cases e)]
    exact h.fro _ _ e
  · by_cases hmn : m = n
    · subst hmn
      rw [hn] at h1
      cases h1
      have hl : m < s.length := by rw [← h.len]; exact (List.getElem?_eq_some_iff.mp hn).1
      rw [List.getElem?_set_self hl] at h2
      cases h2
      exact hu _ upd_same
    · rw [List.getElem?_set_ne (Ne.symm hmn)] at h2
      have hab : b ≠ a := fun z => by
        subst z
        exact hmn (nd_inj h.nd h1 hn)
      have q := h.obj m b p h1 h2
      cases p with
      | lst vs => obtain ⟨f, xs, q, r⟩ := q; exact ⟨f, xs, (upd_ne hab).trans q, r⟩
      | ins c fs => obtain ⟨f, C, dx, ys, q, r⟩ := q; exact ⟨f, C, dx, ys, (upd_ne hab).trans q, r⟩
      | dead => exact q
  · have hne : b ≠ a := fun z => hb (by rw [z]; exact hm)
    rw [upd_ne hne]
    exact e
/-- a list of the store is given up: it never changes from now on -/
theorem RlS.die (h : RlS K mg g s H) {n : Nat} {a : Addr} {ds : List PyData} {vs : List Vl} (hn : g.ph[n]? = some a) (hs : s[n]? = some (.lst vs)) (hd : allD vs = some ds) :
    ∃ g', RlS K mg g' (s.set n .dead) H ∧ Stp g H g' H ∧ RepV K g' (.ref a) (.d (.list ds)) := by
  obtain ⟨hF, xs, hx, hr⟩ := h.obj n a _ hn hs
  have hm : a ∈ g.ph := List.mem_of_getElem? hn
  refine ⟨⟨upd g.F a (.lst xs), g.ph⟩, ⟨fun b x e => ?_, by simp [h.len], h.nd, fun m b p h1 h2 => ?_⟩, ⟨fun _ _ e _ => e, same_new hF, fun b e => ?_, List.prefix_refl _, fun _ z => .inl z⟩, .d (.lst (SqL.of upd_same) (dpAll_same (same_new hF) (hr.data hd)))⟩
  · have e' : upd g.F a (.lst xs) b = some x := e
    by_cases hb : b = a
    · subst hb
      rw [upd_same] at e'
      rw [hx]
      exact e'
    · rw [upd_ne hb] at e'
      exact h.fro _ _ e'
  · by_cases hmn : m = n
    · subst hmn
      have h1' : g.ph[m]? = some b := h1
      rw [hn] at h1'
      cases h1'
      have hl : m < s.length := by rw [← h.len]; exact (List.getElem?_eq_some_iff.mp hn).1
      rw [List.getElem?_set_self hl] at h2
      cases h2
      exact ⟨_, upd_same⟩
    · rw [List.getElem?_set_ne (Ne.symm hmn)] at h2
      have hab : b ≠ a := fun z => by
        subst z
        exact hmn (nd_inj h.nd h1 hn)
      exact objR_le (g := g) (g' := ⟨upd g.F a (.lst xs), g.ph⟩) (same_new hF) (List.prefix_refl _) (fun e => upd_none hab e) (h.obj m b p h1 h2)
  · by_cases hb : b = a
    · exact .inr (.inr (hb ▸ hm))
    · have e' : upd g.F a (.lst xs) b ≠ none := e
      rw [upd_ne hb] at e'
      exact .inl e'
end
end MP

/-! MP3: the operators. -/
namespace MP
open PySem PySem.Spec PyProof.Rows L2

section
variable {K : PySem.W.Frag} {mg : Str → Option Value} {g : Gh} {H : Hp} {s : Sto} {v : Vl} {w : V}

/-- what is wanted of a value v at the store s, from g and H on -/
def Want (K : PySem.W.Frag) (mg : Str → Option Value) (g : Gh) (H : Hp) (s : Sto) (v : Vl) (Q : VK) : Prop :=
  ∀ g' w H', RlS K mg g' s H' → Stp g H g' H' → RepV K g' w v → Q w H'
theorem Want.go {Q : VK} (k : Want K mg g H s v Q) (R : RlS K mg g s H) (r : RepV K g w v) : Q w H := k g w H R (Stp.refl _ _) r
theorem Want.later {g' : Gh} {H' : Hp} {s' : Sto} {Q : VK} (k : Want K mg g H s' v Q) (p : Stp g H g' H') : Want K mg g' H' s' v Q := fun g2 w H2 R q r => k g2 w H2 R (p.trans q) r
/-- a new list, a new tuple of data -/
theorem Want.lst {Q : VK} {xs : List V} {ds : List PyData} {p : Addr} (k : Want K mg g H s (.d (.list ds)) Q) (R : RlS K mg g s H) (hp : H p = none) (hd : DpAll K g.F xs ds) : Q (.ref p) (upd H p (.lst xs)) := by
  obtain ⟨R', S'⟩ := R.froze (o := .lst xs) hp
  exact k _ _ _ R' S' (.d (.lst (SqL.of upd_same) (dpAll_same (same_new (R.fro.free hp)) hd)))
theorem Want.tup {Q : VK} {xs : List V} {ds : List PyData} {p : Addr} (k : Want K mg g H s (.d (.tuple ds)) Q) (R : RlS K mg g s H) (hp : H p = none) (hd : DpAll K g.F xs ds) : Q (.ref p) (upd H p (.tup xs)) := by
  obtain ⟨R', S'⟩ := R.froze (o := .tup xs) hp
  exact k _ _ _ R' S' (.d (.tup (SqT.of upd_same) (dpAll_same (same_new (R.fro.free hp)) hd)))

theorem dpAll_list {F : Hp} {a : Addr} {ds : List PyData} (h : Dp K F (.ref a) (.list ds)) : ∃ xs, SqL K F a xs ∧ DpAll K F xs ds := by
  cases h with
  | lst h1 h2 => exact ⟨_, h1, h2⟩
theorem dpAll_tup {F : Hp} {a : Addr} {ds : List PyData} (h : Dp K F (.ref a) (.tuple ds)) : ∃ xs, SqT K F a xs ∧ DpAll K F xs ds := by
  cases h with
  | tup h1 h2 => exact ⟨_, h1, h2⟩
/-- a list of data -/
theorem flat_list {xs : List PyData} (e : flat s v = some (false, xs)) (R : RlS K mg g s H) (r : RepV K g w v) : ∃ a ys, w = .ref a ∧ SqL K H a ys ∧ DpAll K g.F ys xs := by
  cases v with
  | d x =>
    cases x with
    | list zs =>
      cases e
      cases r with
      | d h =>
        cases h with
        | lst h1 h2 => exact ⟨_, _, rfl, R.fro.seq h1, h2⟩
    | none => cases e
    | bool b => cases e
    | int i => cases e
    | str z => cases e
    | tuple zs => cases e
    | dict z => cases e
  | loc n =>
    cases r with
    | loc h =>
      obtain ⟨o, h1, h2⟩ := R.live h
      simp only [flat, h1] at e
      cases o with
      | lst vs =>
        obtain ⟨_, ys, h3, h4⟩ := h2
        cases h5 : allD vs with
        | none => simp only [h5] at e; cases e
        | some ds =>
          simp only [h5] at e
          cases e
          exact ⟨_, ys, rfl, SqL.of h3, h4.data h5⟩
      | ins c fs => cases e
      | dead => cases e
  | mix vs => cases e
theorem flat_tup {xs : List PyData} (e : flat s v = some (true, xs)) (R : RlS K mg g s H) (r : RepV K g w v) : ∃ a ys, w = .ref a ∧ SqT K H a ys ∧ DpAll K g.F ys xs := by
  cases v with
  | d x =>
    cases x with
    | tuple zs =>
      cases e
      cases r with
      | d h =>
        cases h with
        | tup h1 h2 => exact ⟨_, _, rfl, sqT_same R.fro h1, h2⟩
    | none => cases e
    | bool b => cases e
    | int i => cases e
    | str z => cases e
    | list zs => cases e
    | dict z => cases e
  | loc n =>
    cases h : s[n]? with
    | none => simp only [flat, h] at e; cases e
    | some o =>
      simp only [flat, h] at e
      cases o with
      | lst vs =>
        cases h5 : allD vs with
        | none => simp only [h5] at e; cases e
        | some ds => simp only [h5] at e; cases e
      | ins c fs => cases e
      | dead => cases e
  | mix vs => cases e
theorem seqOf_list {xs : List Vl} (e : seqOf s v = some (false, xs)) (R : RlS K mg g s H) (r : RepV K g w v) : ∃ a ys, w = .ref a ∧ SqL K H a ys ∧ RepVs K g ys xs := by
  cases v with
  | d x =>
    cases x with
    | list zs =>
      cases e
      cases r with
      | d h =>
        cases h with
        | lst h1 h2 => exact ⟨_, _, rfl, R.fro.seq h1, RepVs.ofData h2⟩
    | none => cases e
    | bool b => cases e
    | int i => cases e
    | str z => cases e
    | tuple zs => cases e
    | dict z => cases e
  | loc n =>
    cases r with
    | loc h =>
      obtain ⟨o, h1, h2⟩ := R.live h
      simp only [seqOf, h1] at e
      cases o with
      | lst vs =>
        obtain ⟨_, ys, h3, h4⟩ := h2
        cases e
        exact ⟨_, ys, rfl, SqL.of h3, h4⟩
      | ins c fs => cases e
      | dead => cases e
  | mix vs => cases e
theorem seqOf_tup {xs : List Vl} (e : seqOf s v = some (true, xs)) (R : RlS K mg g s H) (r : RepV K g w v) : ∃ a ys, w = .ref a ∧ SqT K H a ys ∧ RepVs K g ys xs := by
  cases v with
  | d x =>
    cases x with
    | tuple zs =>
      cases e
      cases r with
      | d h =>
        cases h with
        | tup h1 h2 => exact ⟨_, _, rfl, sqT_same R.fro h1, RepVs.ofData h2⟩
    | none => cases e
    | bool b => cases e
    | int i => cases e
    | str z => cases e
    | list zs => cases e
    | dict z => cases e
  | loc n =>
    cases h : s[n]? with
    | none => simp only [seqOf, h] at e; cases e
    | some o =>
      simp only [seqOf, h] at e
      cases o with
      | lst vs => cases e
      | ins c fs => cases e
      | dead => cases e
  | mix vs =>
    cases e
    cases r with
    | mix h1 h2 => exact ⟨_, _, rfl, sqT_same R.fro h1, h2⟩
theorem allM_dp {f : Vl → Option PyData} (hf : ∀ {w : V} {v : Vl} {x : PyData}, f v = some x → RepV K g w v → Dp K H w x) : ∀ {vs : List Vl} {ws : List V} {xs : List PyData}, allM f vs = some xs → RepVs K g ws vs → DpAll K H ws xs
  | [], _, _, e, .nil => by cases e; exact .nil
  | v :: vs, _, _, e, .cons a r => by
    unfold allM at e
    split at e
    · rename_i x xs e1 e2
      cases e
      exact .cons (hf e1 a) (allM_dp hf e2 r)
    · cases e
theorem datN_dp (R : RlS K mg g s H) : ∀ (n : Nat) {w : V} {v : Vl} {x : PyData}, datN s n v = some x → RepV K g w v → Dp K H w x := by
  intro n
  induction n with
  | zero =>
    intro w v x e r
    cases v with
    | d y =>
      cases e
      cases r with
      | d h => exact dp_same R.fro h
    | loc i => cases e
    | mix vs => cases e
  | succ n ih =>
    intro w v x e r
    cases v with
    | d y =>
      cases e
      cases r with
      | d h => exact dp_same R.fro h
    | loc i =>
      cases r with
      | loc h =>
        obtain ⟨o, h1, h2⟩ := R.live h
        simp only [datN, h1] at e
        cases o with
        | lst vs =>
          obtain ⟨_, ys, h3, h4⟩ := h2
          obtain ⟨ds, h5, h6⟩ := Option.map_eq_some_iff.mp e
          cases h6
          exact .lst (SqL.of h3) (allM_dp (fun e r => ih e r) h5 h4)
        | ins c fs => cases e
        | dead => cases e
    | mix vs =>
      cases r with
      | mix h1 h2 =>
        have e' : (allM (datN s n) vs).map PyData.tuple = some x := e
        obtain ⟨ds, h5, h6⟩ := Option.map_eq_some_iff.mp e'
        cases h6
        exact .tup (sqT_same R.fro h1) (allM_dp (fun e r => ih e r) h5 h2)
theorem datV_dp {x : PyData} (e : datV s v = some x) (R : RlS K mg g s H) (r : RepV K g w v) : Dp K H w x := by
  cases v with
  | d y =>
    cases e
    cases r with
    | d h => exact dp_same R.fro h
  | loc n => exact datN_dp R 6 (v := .loc n) (show datN s 6 (.loc n) = some x from e) r
  | mix vs => exact datN_dp R 6 (v := .mix vs) (show datN s 6 (.mix vs) = some x from e) r

/-- an operator by what it computes -/
def rO2 (K : PySem.W.Frag) (mg : Str → Option Value) (o : O2) : R2 := fun x y H Q =>
  ∃ g s a b v, RlS K mg g s H ∧ RepV K g x a ∧ RepV K g y b ∧ o2v o s a b = some v ∧ Want K mg g H s v Q
end

section
variable {X : Cx}
theorem rel_int {i : Int} {u : Value} {g : Gh} {K : PySem.W.Frag} {w : V} (r : RepV K g w (.d (.int i))) : w = .int i := by
  cases r with
  | d h => cases h; rfl
theorem rel_str {i : Str} {g : Gh} {K : PySem.W.Frag} {w : V} (r : RepV K g w (.d (.str i))) : w = .str i := by
  cases r with
  | d h => cases h; rfl
theorem rel_bl {i : Bool} {g : Gh} {K : PySem.W.Frag} {w : V} (r : RepV K g w (.d (.bool i))) : w = .bl i := by
  cases r with
  | d h => cases h; rfl
theorem rel_non {g : Gh} {K : PySem.W.Frag} {w : V} (r : RepV K g w (.d .none)) : w = .non := by
  cases r with
  | d h => cases h; rfl
theorem rep_int {g : Gh} {K : PySem.W.Frag} (i : Int) : RepV K g (.int i) (.d (.int i)) := .d (.int i)
theorem rep_bl {g : Gh} {K : PySem.W.Frag} (i : Bool) : RepV K g (.bl i) (.d (.bool i)) := .d (.bl i)
theorem rep_str {g : Gh} {K : PySem.W.Frag} (i : Str) : RepV K g (.str i) (.d (.str i)) := .d (.str i)

theorem mulOk_ok {i j : Int} (h : mulOk i j = true) : IntMulOk i j := by
  have h3 := of_decide_eq_true h
  have e : bitsLine = 134217728 := by decide
  unfold IntMulOk
  intro z
  rw [Bool.and_eq_true] at z
  have z2 := z.2
  unfold Builtin.Int.intTooBig at z2
  have z3 := of_decide_eq_true z2
  rw [e] at z3
  omega
/-- list + list, whatever the lists are -/
theorem cat_any {pins : List (Addr × Obj)} {s : Shared} {σ : L2.St} {H : Hp} {l b : Addr} {xs zs : List V} {Q : VK} (I : Inv X pins σ H s) (h1 : SqL X.K H l xs) (h2 : SqL X.K H b zs) (hz : xs.length + zs.length ≤ sizeLine)
    (q : ∀ p, H p = none → Q (.ref p) (upd H p (.lst (xs ++ zs)))) : wpAny (model X.prog X.w) X.A (binaryOp .Add (.ref l) (.ref b)) (EP X pins σ Q) X.xe s := by
  obtain ⟨its, r1, ⟨⟨c1, d1, dt1, sl1⟩, n1, o1, e1, e2, e3⟩, _⟩ := I.list h1
  obtain ⟨its2, r2, ⟨⟨c2, d2, dt2, sl2⟩, n2, o2, f1, f2, f3⟩, _⟩ := I.list h2
  simp only at e1 e2 e3 f1 f2 f3
  subst e1 e2 e3 f1 f2 f3
  have hl1 := r1.length
  have hl2 := r2.length
  have ea : its.toArray ++ its2.toArray = (its ++ its2).toArray := by simp
  refine concat_meets ⟨_, o1, rfl⟩ ⟨_, o2, rfl⟩ noFill_list_add seq_list_add PySem.F.slot_list_add PySem.F.entry_list_add (PySem.F.args_list_add_2 _ _) (list_addW l b its.toArray its2.toArray n1 n2 none none sl1 sl2 (by simp only [List.size_toArray]; omega)) ⟨o1, o2, ?_⟩
  rw [ea]
  exact ⟨.ref _, _, I.lnew (t' := s.toks) (r1.append r2) (by rw [List.length_append]; omega), rfl, q _ I.fresh⟩
theorem dpAll_append {K : PySem.W.Frag} {F : Hp} {us : List V} {ys : List PyData} (q : DpAll K F us ys) : ∀ {vs : List V} {xs : List PyData}, DpAll K F vs xs → DpAll K F (vs ++ us) (xs ++ ys)
  | _, _, .nil => q
  | _, _, .cons a r => .cons a (dpAll_append q r)
theorem dpAll_length {K : PySem.W.Frag} {F : Hp} : ∀ {vs : List V} {xs : List PyData}, DpAll K F vs xs → vs.length = xs.length
  | _, _, .nil => rfl
  | _, _, .cons _ r => congrArg (· + 1) (dpAll_length r)
theorem dpAll_get {K : PySem.W.Frag} {F : Hp} : ∀ {vs : List V} {xs : List PyData} {i : Nat} {x : PyData}, DpAll K F vs xs → xs[i]? = some x → ∃ v, vs[i]? = some v ∧ Dp K F v x
  | _, _, _, _, .nil, e => by simp at e
  | _, _, 0, x, .cons a _, e => by
    simp at e
    subst e
    exact ⟨_, rfl, a⟩
  | _, _, i + 1, x, .cons _ r, e => by
    obtain ⟨v, h1, h2⟩ := dpAll_get (i := i) r (by simpa using e)
    exact ⟨v, by simpa using h1, h2⟩
theorem dpAll_take {K : PySem.W.Frag} {F : Hp} : ∀ {vs : List V} {xs : List PyData} (n : Nat), DpAll K F vs xs → DpAll K F (vs.take n) (xs.take n)
  | _, _, 0, _ => .nil
  | _, _, _ + 1, .nil => .nil
  | _, _, n + 1, .cons a r => .cons a (dpAll_take n r)
theorem dpAll_drop {K : PySem.W.Frag} {F : Hp} : ∀ {vs : List V} {xs : List PyData} (n : Nat), DpAll K F vs xs → DpAll K F (vs.drop n) (xs.drop n)
  | _, _, 0, r => r
  | _, _, _ + 1, .nil => .nil
  | _, _, n + 1, .cons _ r => dpAll_drop n r
theorem dpAll_rep {K : PySem.W.Frag} {F : Hp} {vs : List V} {xs : List PyData} (q : DpAll K F vs xs) : ∀ n : Nat, DpAll K F (List.replicate n vs).flatten (List.replicate n xs).flatten
  | 0 => .nil
  | n + 1 => by
    rw [List.replicate_succ, List.replicate_succ, List.flatten_cons, List.flatten_cons]
    exact dpAll_append (dpAll_rep q n) q
theorem dpAll_reverse {K : PySem.W.Frag} {F : Hp} : ∀ {vs : List V} {xs : List PyData}, DpAll K F vs xs → DpAll K F vs.reverse xs.reverse
  | _, _, .nil => .nil
  | _, _, .cons a r => by
    rw [List.reverse_cons, List.reverse_cons]
    exact dpAll_append (.cons a .nil) (dpAll_reverse r)

theorem o2_add : OpR X (binaryOp .Add) (rO2 X.K X.mg .add) := by
  intro pins s σ H x y v u Q I rx ry h
  obtain ⟨g, st, a, b, w, R, ra, rb, e, k⟩ := h
  have lists : ∀ {xs ys}, flat st a = some (false, xs) → flat st b = some (false, ys) → xs.length + ys.length ≤ sizeLine → w = .d (.list (xs ++ ys)) → wpAny (model X.prog X.w) X.A (binaryOp .Add v u) (EP X pins σ Q) X.xe s := by
    intro xs ys e1 e2 hz ew
    subst ew
    obtain ⟨p, zs, rfl, h1, h2⟩ := flat_list e1 R ra
    obtain ⟨q, ws, rfl, h3, h4⟩ := flat_list e2 R rb
    cases rx
    cases ry
    have l1 := dpAll_length h2
    have l2 := dpAll_length h4
    exact cat_any I h1 h3 (by omega) fun p hp => k.lst R hp (dpAll_append h4 h2)
  unfold o2v at e
  simp only at e
  split at e
  · cases e
    have e1 := rel_int (u := v) ra
    have e2 := rel_int (u := u) rb
    subst e1 e2
    exact op_add pins s σ H _ _ v u Q I rx ry ⟨_, _, rfl, rfl, k.go R (rep_int _)⟩
  · split at e
    · cases e
      rename_i hz
      have e1 := rel_str ra
      have e2 := rel_str rb
      subst e1 e2
      exact op_add_str pins s σ H _ _ v u Q I rx ry ⟨_, _, rfl, rfl, hz, k.go R (rep_str _)⟩
    · cases e
  · split at e
    · split at e
      · rename_i e1 e2 hz
        cases e
        exact lists e1 e2 hz rfl
      · cases e
    · cases e

theorem list_mulW (l : Addr) (items : Array Value) (n : Nat) (dd : Option Addr) (sl : Array (Option Value)) (x : Int) (u : Tok) (hc0 : ¬(!Builtin.List.listFitsIndex x) = true) (hc1 : ¬items.size * x.toNat > (2 ^ 63 - 1) / 8)
    (hc2 : ¬Builtin.List.listTooLong (items.size * x.toNat) = true) :
    Meets (Builtin.«list.__mul__» ⟨[.ref l, .int x u], []⟩) (fun _ R s => s.heap.get? l = some { cls := .type "list", dict := dd, data := .seq items n, slots := sl } ∧
      R (.ok (.ret (Value.ref s.heap.objs.size))) { s with heap := s.heap.push { cls := Value.type "list", data := Data.seq (List.foldl (fun x1 x2 => x1 ++ x2) #[] (List.replicate (if items.isEmpty = true then 0 else x.toNat) items)) }, toks := s.toks }) :=
  .of_wp fun prog w A R s h => by
    obtain ⟨hp, g, d, tk, os⟩ := s
    obtain ⟨hl, h⟩ := h
    have hsz := AutoListH.joined_fits hc2
    wp_walk using AutoSeq1.wpAny_loadPart' hl
    refine wpAny_ite_false (decide_eq_false (Nat.not_lt.mpr hsz)) ?_
    wp_walk using AutoSeq1.wpAny_loadPart' hl
    exact ⟨_, rfl, h⟩
/-- an operator on ints alone -/
theorem o2_ints {f : Value → Value → Sem Value} {o : O2} {C : Int → Int → Prop} {gg : Int → Int → PyData} {hh : Int → Int → V} (hop : OpR X f (fun x y H Q => ∃ i j, x = .int i ∧ y = .int j ∧ C i j ∧ Q (hh i j) H))
    (hr : ∀ g i j, RepV X.K g (hh i j) (.d (gg i j))) (ho : ∀ st a b v, o2v o st a b = some v → ∃ i j, a = .d (.int i) ∧ b = .d (.int j) ∧ C i j ∧ v = .d (gg i j)) : OpR X f (rO2 X.K X.mg o) := by
  intro pins s σ H x y v u Q I rx ry h
  obtain ⟨g, st, a, b, w, R, ra, rb, e, k⟩ := h
  obtain ⟨i, j, rfl, rfl, c, rfl⟩ := ho st a b w e
  have e1 := rel_int (u := v) ra
  have e2 := rel_int (u := u) rb
  subst e1 e2
  exact hop pins s σ H _ _ v u Q I rx ry ⟨i, j, rfl, rfl, c, k.go R (hr g i j)⟩

theorem o2_sub : OpR X (binaryOp .Sub) (rO2 X.K X.mg .sub) :=
  o2_ints (C := fun _ _ => True) (gg := fun i j => .int (i - j)) (hh := fun i j => .int (i - j)) (fun pins s σ H x y v u Q I rx ry ⟨i, j, e1, e2, _, q⟩ => op_sub pins s σ H x y v u Q I rx ry ⟨i, j, e1, e2, q⟩) (fun _ _ _ => rep_int _) fun st a b v e => by
    unfold o2v at e
    simp only at e
    split at e
    · cases e
      exact ⟨_, _, rfl, rfl, trivial, rfl⟩
    · cases e
theorem o2_fdiv : OpR X (binaryOp .FloorDiv) (rO2 X.K X.mg .fdiv) :=
  o2_ints (C := CDivW) (gg := fun i j => .int (i / j)) (hh := fun i j => .int (i / j)) op_fdivW (fun _ _ _ => rep_int _) fun st a b v e => by
    unfold o2v at e
    simp only at e
    split at e
    · split at e
      · rename_i h
        cases e
        unfold divOk at h
        rw [Bool.and_eq_true, decide_eq_true_eq, decide_eq_true_eq] at h
        exact ⟨_, _, rfl, rfl, h, rfl⟩
      · cases e
    · cases e
theorem o2_mod : OpR X (binaryOp .Mod) (rO2 X.K X.mg .mod) :=
  o2_ints (C := fun _ j => 0 < j) (gg := fun i j => .int (i % j)) (hh := fun i j => .int (i % j)) op_mod (fun _ _ _ => rep_int _) fun st a b v e => by
    unfold o2v at e
    simp only at e
    split at e
    · split at e
      · rename_i h
        cases e
        exact ⟨_, _, rfl, rfl, h, rfl⟩
      · cases e
    · cases e
theorem o2_pow : OpR X (binaryOp .Pow) (rO2 X.K X.mg .pow) :=
  o2_ints (C := fun i j => powOk i j = true) (gg := fun i j => .int (i ^ j.toNat)) (hh := fun i j => .int (i ^ j.toNat)) (opI fun i j _ _ _ _ _ hc q => by
    unfold powOk at hc
    rw [Bool.and_eq_true, decide_eq_true_eq, decide_eq_true_eq] at hc
    obtain ⟨h1, h2⟩ := hc
    refine pow_int h1 ?_ q
    have : (Builtin.Int.intBits i : Int) * j = ((Builtin.Int.intBits i * j.toNat : Nat) : Int) := by
      rw [Int.natCast_mul, Int.toNat_of_nonneg h1]
    rw [this]
    omega) (fun _ _ _ => rep_int _) fun st a b v e => by
    unfold o2v at e
    simp only at e
    split at e
    · split at e
      · rename_i h
        cases e
        exact ⟨_, _, rfl, rfl, h, rfl⟩
      · cases e
    · cases e
theorem o2_lt : OpR X (compareOp .Lt) (rO2 X.K X.mg .lt) :=
  o2_ints (C := fun _ _ => True) (gg := fun i j => .bool (decide (i < j))) (hh := fun i j => .bl (decide (i < j))) (fun pins s σ H x y v u Q I rx ry ⟨i, j, e1, e2, _, q⟩ => op_lt pins s σ H x y v u Q I rx ry ⟨i, j, e1, e2, q⟩) (fun _ _ _ => rep_bl _) fun st a b v e => by
    unfold o2v at e
    simp only at e
    split at e
    · cases e
      exact ⟨_, _, rfl, rfl, trivial, rfl⟩
    · cases e
theorem o2_le : OpR X (compareOp .LtE) (rO2 X.K X.mg .le) :=
  o2_ints (C := fun _ _ => True) (gg := fun i j => .bool (decide (i ≤ j))) (hh := fun i j => .bl (decide (i ≤ j))) (fun pins s σ H x y v u Q I rx ry ⟨i, j, e1, e2, _, q⟩ => op_le pins s σ H x y v u Q I rx ry ⟨i, j, e1, e2, q⟩) (fun _ _ _ => rep_bl _) fun st a b v e => by
    unfold o2v at e
    simp only at e
    split at e
    · cases e
      exact ⟨_, _, rfl, rfl, trivial, rfl⟩
    · cases e
theorem o2_gt : OpR X (compareOp .Gt) (rO2 X.K X.mg .gt) :=
  o2_ints (C := fun _ _ => True) (gg := fun i j => .bool (decide (j < i))) (hh := fun i j => .bl (decide (j < i))) (fun pins s σ H x y v u Q I rx ry ⟨i, j, e1, e2, _, q⟩ => op_gt pins s σ H x y v u Q I rx ry ⟨i, j, e1, e2, q⟩) (fun _ _ _ => rep_bl _) fun st a b v e => by
    unfold o2v at e
    simp only at e
    split at e
    · cases e
      exact ⟨_, _, rfl, rfl, trivial, rfl⟩
    · cases e
theorem o2_ge : OpR X (compareOp .GtE) (rO2 X.K X.mg .ge) :=
  o2_ints (C := fun _ _ => True) (gg := fun i j => .bool (decide (j ≤ i))) (hh := fun i j => .bl (decide (j ≤ i))) (fun pins s σ H x y v u Q I rx ry ⟨i, j, e1, e2, _, q⟩ => op_ge pins s σ H x y v u Q I rx ry ⟨i, j, e1, e2, q⟩) (fun _ _ _ => rep_bl _) fun st a b v e => by
    unfold o2v at e
    simp only at e
    split at e
    · cases e
      exact ⟨_, _, rfl, rfl, trivial, rfl⟩
    · cases e

theorem okD_ok {x : PyData} (h : okD x = true) : x.plain = true ∧ x.depth ≤ 60 := by
  unfold okD at h
  rw [Bool.and_eq_true, decide_eq_true_eq] at h
  exact h
theorem o2_eq (hu : X.A.units + 64 < cLine) : OpR X (compareOp .Eq) (rO2 X.K X.mg .eq) := by
  intro pins s σ H x y v u Q I rx ry h
  obtain ⟨g, st, a, b, w, R, ra, rb, e, k⟩ := h
  unfold o2v at e
  simp only at e
  split at e
  · rename_i dx dy e1 e2
    split at e
    · rename_i h
      cases e
      rw [Bool.and_eq_true] at h
      obtain ⟨h1, h2⟩ := okD_ok h.1
      obtain ⟨h3, h4⟩ := okD_ok h.2
      obtain ⟨as, r1⟩ := Dp.reads I _ x v (datV_dp e1 R ra) rx
      obtain ⟨bs, r2⟩ := Dp.reads I _ y u (datV_dp e2 R rb) ry
      exact SeqAt.eq_plain r1 r2 h1 h3 (by omega) ⟨.bl _, H, I, rfl, k.go R (rep_bl _)⟩
    · cases e
  · cases e
theorem o2_ne (hu : X.A.units + 64 < cLine) : OpR X (compareOp .NotEq) (rO2 X.K X.mg .ne) := by
  intro pins s σ H x y v u Q I rx ry h
  obtain ⟨g, st, a, b, w, R, ra, rb, e, k⟩ := h
  unfold o2v at e
  simp only at e
  split at e
  · rename_i dx dy e1 e2
    split at e
    · rename_i h
      cases e
      rw [Bool.and_eq_true] at h
      obtain ⟨h1, h2⟩ := okD_ok h.1
      obtain ⟨h3, h4⟩ := okD_ok h.2
      obtain ⟨as, r1⟩ := Dp.reads I _ x v (datV_dp e1 R ra) rx
      obtain ⟨bs, r2⟩ := Dp.reads I _ y u (datV_dp e2 R rb) ry
      exact SeqAt.ne_plain r1 r2 h1 h3 (by omega) ⟨.bl _, H, I, rfl, k.go R (rep_bl _)⟩
    · cases e
  · cases e
theorem plain_list {ys : List PyData} (h : okD (.list ys) = true) : PyData.plainAll ys = true ∧ PyData.depthAll ys ≤ 60 := by
  obtain ⟨h1, h2⟩ := okD_ok h
  refine ⟨by simpa [PyData.plain] using h1, ?_⟩
  simp only [PyData.depth] at h2
  omega
theorem o2_in (hu : X.A.units + 100 < cLine) : OpR X (compareOp .In) (rO2 X.K X.mg .inn) := by
  intro pins s σ H x y v u Q I rx ry h
  obtain ⟨g, st, a, b, w, R, ra, rb, e, k⟩ := h
  unfold o2v at e
  simp only at e
  split at e
  · cases e
    have e1 := rel_str ra
    have e2 := rel_str rb
    subst e1 e2
    exact op_in_str pins s σ H _ _ v u Q I rx ry ⟨_, _, rfl, rfl, k.go R (rep_bl _)⟩
  · split at e
    · rename_i dx _ _ tt ys e1
      split at e
      · rename_i h
        cases e
        rw [Bool.and_eq_true] at h
        obtain ⟨h1, h2⟩ := okD_ok h.1
        obtain ⟨h3, h4⟩ := plain_list h.2
        obtain ⟨as, r1⟩ := Dp.reads I _ x v (datV_dp (s := st) (v := .d dx) rfl R ra) rx
        cases tt with
        | false =>
          obtain ⟨p, zs, rfl, q1, q2⟩ := flat_list e1 R rb
          obtain ⟨bs, r2⟩ := Dp.reads I (.list ys) _ u (.lst q1 (dpAll_same R.fro q2)) ry
          exact SeqAt.in_list_data r2 r1 h3 h1 (by omega) ⟨.bl _, H, I, rfl, k.go R (rep_bl _)⟩
        | true =>
          obtain ⟨p, zs, rfl, q1, q2⟩ := flat_tup e1 R rb
          obtain ⟨bs, r2⟩ := Dp.reads I (.tuple ys) _ u (.tup q1 (dpAll_same R.fro q2)) ry
          exact SeqAt.in_tuple_data r2 r1 h3 h1 (by omega) ⟨.bl _, H, I, rfl, k.go R (rep_bl _)⟩
      · cases e
    · cases e
  · cases e
theorem o2_nin (hu : X.A.units + 100 < cLine) : OpR X (compareOp .NotIn) (rO2 X.K X.mg .nin) := by
  intro pins s σ H x y v u Q I rx ry h
  obtain ⟨g, st, a, b, w, R, ra, rb, e, k⟩ := h
  unfold o2v at e
  simp only at e
  split at e
  · cases e
    have e1 := rel_str ra
    have e2 := rel_str rb
    subst e1 e2
    exact op_notIn_str pins s σ H _ _ v u Q I rx ry ⟨_, _, rfl, rfl, k.go R (rep_bl _)⟩
  · split at e
    · rename_i dx _ _ tt ys e1
      split at e
      · rename_i h
        cases e
        rw [Bool.and_eq_true] at h
        obtain ⟨h1, h2⟩ := okD_ok h.1
        obtain ⟨h3, h4⟩ := plain_list h.2
        obtain ⟨as, r1⟩ := Dp.reads I _ x v (datV_dp (s := st) (v := .d dx) rfl R ra) rx
        cases tt with
        | false =>
          obtain ⟨p, zs, rfl, q1, q2⟩ := flat_list e1 R rb
          obtain ⟨bs, r2⟩ := Dp.reads I (.list ys) _ u (.lst q1 (dpAll_same R.fro q2)) ry
          exact SeqAt.notIn_list_data r2 r1 h3 h1 (by omega) ⟨.bl _, H, I, rfl, k.go R (rep_bl _)⟩
        | true =>
          obtain ⟨p, zs, rfl, q1, q2⟩ := flat_tup e1 R rb
          obtain ⟨bs, r2⟩ := Dp.reads I (.tuple ys) _ u (.tup q1 (dpAll_same R.fro q2)) ry
          exact SeqAt.notIn_tuple_data r2 r1 h3 h1 (by omega) ⟨.bl _, H, I, rfl, k.go R (rep_bl _)⟩
      · cases e
    · cases e
  · cases e
theorem atI_rep {K : PySem.W.Frag} {g : Gh} {vs : List V} {xs : List Vl} {i : Int} {x : Vl} (r : RepVs K g vs xs) (e : L2.atI xs i = some x) : ∃ v, L2.atI vs i = some v ∧ RepV K g v x := by
  unfold L2.atI at e ⊢
  rw [r.length]
  cases h : L2.ixN xs.length i with
  | none => rw [h] at e; cases e
  | some j =>
    rw [h] at e
    exact r.get e
theorem ix_any : IxR X (rO2 X.K X.mg .idx) := by
  intro value slice pins s σ H x y v u Q I rx ry h hs
  obtain ⟨g, st, a, b, w, R, ra, rb, e, k⟩ := h
  unfold o2v at e
  simp only at e
  split at e
  · rename_i z i
    split at e
    · rename_i hz
      cases ha : L2.atI z.cps.toList i with
      | none => rw [ha] at e; cases e
      | some c =>
        rw [ha] at e
        cases e
        have e1 := rel_str ra
        have e2 := rel_int (u := u) rb
        subst e1 e2
        exact ix_str value slice pins s σ H _ _ v u Q I rx ry ⟨_, _, c, rfl, rfl, hz, ha, k.go R (rep_str _)⟩ hs
    · cases e
  · rename_i i _
    have e2 := rel_int (u := u) rb
    subst e2
    split at e
    · rename_i tt xs e1
      cases tt with
      | false =>
        obtain ⟨p, zs, rfl, q1, q2⟩ := seqOf_list e1 R ra
        obtain ⟨z, h1, h2⟩ := atI_rep q2 e
        exact ix_list value slice pins s σ H _ _ v u Q I rx ry ⟨p, zs, _, z, rfl, rfl, q1, h1, k.go R h2⟩ hs
      | true =>
        obtain ⟨p, zs, rfl, q1, q2⟩ := seqOf_tup e1 R ra
        obtain ⟨z, h1, h2⟩ := atI_rep q2 e
        exact ix_tup value slice pins s σ H _ _ v u Q I rx ry ⟨p, zs, _, z, rfl, rfl, q1, h1, k.go R h2⟩ hs
    · cases e
  · cases e
end
end MP

/-! MP4: built-ins' calls, slices. -/
namespace MP
open PySem PySem.Spec PyProof.Rows L2

theorem int_rmulW (a : Int) (t : Tok) (l : Addr) (items : Array Value) (n : Nat) (dd : Option Addr) (sl : Array (Option Value)) :
    Meets (Builtin.«int.__rmul__» ⟨[.int a t, .ref l], []⟩) (fun _ R s => s.heap.get? l = some { cls := .type "list", dict := dd, data := .seq items n, slots := sl } ∧ R (.ok (.ret Value.notImplemented)) s) :=
  .of_wp fun prog w A R s h => by
    obtain ⟨hp, g, d, tk, os⟩ := s
    obtain ⟨hl, h⟩ := h
    wp_walk using AutoSeq1.wpAny_loadPart' hl
    exact ⟨_, rfl, h⟩
theorem notLongS {n : Nat} (h : n ≤ 16000000) : Builtin.Str.tooLong n = false := decide_eq_false (by have := (by decide : sizeLine = 16777216); omega)
section
variable {X : Cx}
theorem o2_mul : OpR X (binaryOp .Mult) (rO2 X.K X.mg .mul) := by
  intro pins s σ H x y v u Q I rx ry h
  obtain ⟨g, st, a, b, w, R, ra, rb, e, k⟩ := h
  unfold o2v at e
  simp only at e
  split at e
  · split at e
    · rename_i h
      cases e
      have e1 := rel_int (u := v) ra
      have e2 := rel_int (u := u) rb
      subst e1 e2
      obtain ⟨t, rfl⟩ := rx
      obtain ⟨t', rfl⟩ := ry
      exact mul_int ⟨.int _, H, I.tok _, ⟨_, rfl⟩, k.go R (rep_int _)⟩ (mulOk_ok h)
    · cases e
  · rename_i z kk
    split at e
    · rename_i hc
      cases e
      obtain ⟨h0, h1, h2⟩ := hc
      have e2 := rel_int (u := u) rb
      subst e2
      obtain ⟨t', rfl⟩ := ry
      cases ra with
      | d ra =>
        cases ra
        obtain ⟨t, rfl⟩ := rx
        have hm : (z.length : Int) * kk ≤ 16000000 := by
          have : ((z.length * kk.toNat : Nat) : Int) = (z.length : Int) * kk := by
            rw [Int.natCast_mul]
            congr 1
            omega
          omega
        have q : ∀ t s2, EP X pins σ Q (.str (repS z kk.toNat) t) { s with toks := s2 } := fun t s2 => ⟨.str _, H, I.tok _, ⟨_, rfl⟩, k.go R (.d (.str _))⟩
        refine P.mul_str ?_ (fun g1 g2 => ?_) (fun g1 g2 => ?_) ?_
        · have g1 : ¬ kk < -(2 ^ 63 : Int) := by omega
          have g2 : ¬ kk ≥ 2 ^ 63 := by omega
          rw [decide_eq_false g1, decide_eq_false g2]
          rfl
        · have : (z.length : Int) ≤ (2 ^ 63 - 1) / kk := Int.le_ediv_of_mul_le (by omega) (by omega)
          omega
        · exact notLongS (by omega)
        · by_cases g1 : kk < 1
          · rw [if_pos g1]
            have e0 : kk.toNat = 0 := by omega
            have := q
            rw [e0] at this
            exact ⟨by decide, this _ _⟩
          · rw [if_neg g1]
            cases g2 : (kk == 1 || z.length == 0) with
            | true =>
              rw [if_pos rfl]
              have e1 : repS z kk.toNat = z := by
                rcases Bool.or_eq_true_iff.mp g2 with g | g
                · have : kk = 1 := by simpa using g
                  subst this
                  show (⟨#[] ++ z.cps⟩ : Str) = z
                  rw [Array.empty_append]
                · have g : z.cps = #[] := by
                    have g' : z.length = 0 := by simpa using g
                    have : z.cps.size = 0 := g'
                    exact Array.eq_empty_of_size_eq_zero this
                  have : ∀ n, (List.replicate n (#[] : Array Nat)).foldl (· ++ ·) #[] = #[] := fun n => by
                    induction n with
                    | zero => rfl
                    | succ n ih => rw [List.replicate_succ, List.foldl_cons]; exact ih
                  unfold repS
                  cases z
                  simp only at g
                  subst g
                  rw [this]
              have := q
              rw [e1] at this
              exact this _ _
            | false =>
              rw [if_neg Bool.false_ne_true]
              exact ⟨fits_reps (notLongS (by omega)), q _ _⟩
    · cases e
  · rename_i kk _ _
    have e2 := rel_int (u := u) rb
    subst e2
    obtain ⟨t', rfl⟩ := ry
    split at e
    · rename_i xs e1
      split at e
      · rename_i hc
        cases e
        obtain ⟨hz, h1, h2⟩ := hc
        obtain ⟨p, zs, rfl, q1, q2⟩ := flat_list e1 R ra
        cases rx
        obtain ⟨its, r1, ⟨⟨c1, d1, dt1, sl1⟩, n1, o1, e1', e2', e3'⟩, _⟩ := I.list q1
        simp only at e1' e2' e3'
        subst e1' e2' e3'
        have l1 := dpAll_length q2
        have l2 := r1.length
        have hlen : its.toArray.size * kk.toNat ≤ sizeLine := by rw [List.size_toArray, ← l2, l1]; exact hz
        have hcap : ¬ its.toArray.size * kk.toNat > (2 ^ 63 - 1) / 8 := by
          have : (sizeLine : Nat) ≤ (2 ^ 63 - 1) / 8 := by decide
          omega
        have hfit : ¬ (!Builtin.List.listFitsIndex kk) = true := by
          rw [fitsIndex_both (by omega) (by omega)]
          exact Bool.false_ne_true
        have hlong : ¬ Builtin.List.listTooLong (its.toArray.size * kk.toNat) = true := by
          rw [notLongL hlen]
          exact Bool.false_ne_true
        have hnew : List.foldl (fun x1 x2 => x1 ++ x2) #[] (List.replicate (if its.toArray.isEmpty = true then 0 else kk.toNat) its.toArray) = (List.replicate kk.toNat its).flatten.toArray := by
          have f0 : ∀ m : Nat, List.foldl (fun x1 x2 => x1 ++ x2) #[] (List.replicate m its.toArray) = (List.replicate m its).flatten.toArray := fun m => by
            have := foldl_rep its m []
            rw [List.nil_append] at this
            exact this
          rw [f0]
          cases its with
          | nil => simp
          | cons a r' => rw [if_neg (by simp)]
        refine wpAny_binaryOp_repeat_ref (T := "list") (U := "int") (by decide) ⟨_, o1, rfl⟩ (fun s' => typeIs_int s' kk t') noFill_list_mul F.fills_int_mul F.slot_int_rmul repeat_list F.slot_int_index.lookup
          (call_meets F.slot_int_rmul (typeIs_int s kk t') F.entry_int_rmul (F.args_int_rmul_2 _ _) (int_rmulW kk t' p its.toArray n1 none sl1)
            ⟨o1, rfl, ⟨_, o1, rfl⟩, call_meets F.slot_list_mul ⟨_, o1, rfl⟩ F.entry_list_mul (F.args_list_mul_2 _ _) (list_mulW p its.toArray n1 none sl1 kk t' hfit hcap hlong) ⟨o1, ?_⟩⟩)
        rw [hnew]
        refine ⟨.ref _, _, I.lnew (t' := s.toks) (r1.rep kk.toNat) ?_, rfl, k.lst R I.fresh (dpAll_rep q2 kk.toNat)⟩
        rw [PyProof.Rows.lm_len_rep_flat, Nat.mul_comm, l1]
        exact hz
      · cases e
    · cases e
  · cases e

/-! ### unary operators -/
theorem o1_neg : UnR X (unaryOp .USub) (fun x H Q => ∃ g s a v, RlS X.K X.mg g s H ∧ RepV X.K g x a ∧ o1v .neg a = some v ∧ Want X.K X.mg g H s v Q) := by
  intro pins s σ H x v Q I rx h
  obtain ⟨g, st, a, w, R, ra, e, k⟩ := h
  unfold o1v at e
  simp only at e
  split at e
  · cases e
    have e1 := rel_int (u := v) ra
    subst e1
    exact un_neg pins s σ H _ v Q I rx ⟨_, rfl, k.go R (rep_int _)⟩
  · cases e

/-! ### built-ins -/
theorem ints_eq {K : PySem.W.Frag} {F : Hp} : ∀ {vs : List V} {xs : List PyData} {ns : List Int}, DpAll K F vs xs → intsOf xs = some ns → vs = ns.map V.int
  | _, _, _, .nil, e => by cases e; rfl
  | _, _, _, .cons (d := d) (ds := ds) a r, e => by
    cases d with
    | int i =>
      have e' : (intsOf ds).map (i :: ·) = some _ := e
      cases h : intsOf ds with
      | none => rw [h] at e'; cases e'
      | some zs =>
        rw [h] at e'
        cases e'
        cases a
        rw [List.map_cons, ints_eq r h]
    | none => cases e
    | bool b => cases e
    | str z => cases e
    | list zs => cases e
    | tuple zs => cases e
    | dict z => cases e
theorem bools_eq {K : PySem.W.Frag} {F : Hp} : ∀ {vs : List V} {xs : List PyData} {ns : List Bool}, DpAll K F vs xs → boolsOf xs = some ns → vs = ns.map V.bl
  | _, _, _, .nil, e => by cases e; rfl
  | _, _, _, .cons (d := d) (ds := ds) a r, e => by
    cases d with
    | bool i =>
      have e' : (boolsOf ds).map (i :: ·) = some _ := e
      cases h : boolsOf ds with
      | none => rw [h] at e'; cases e'
      | some zs =>
        rw [h] at e'
        cases e'
        cases a
        rw [List.map_cons, bools_eq r h]
    | none => cases e
    | int b => cases e
    | str z => cases e
    | list zs => cases e
    | tuple zs => cases e
    | dict z => cases e
theorem strs_eq {K : PySem.W.Frag} {F : Hp} : ∀ {vs : List V} {xs : List PyData} {ns : List Str}, DpAll K F vs xs → strsOf xs = some ns → vs = ns.map V.str
  | _, _, _, .nil, e => by cases e; rfl
  | _, _, _, .cons (d := d) (ds := ds) a r, e => by
    cases d with
    | str i =>
      have e' : (strsOf ds).map (i :: ·) = some _ := e
      cases h : strsOf ds with
      | none => rw [h] at e'; cases e'
      | some zs =>
        rw [h] at e'
        cases e'
        cases a
        rw [List.map_cons, strs_eq r h]
    | none => cases e
    | int b => cases e
    | bool z => cases e
    | list zs => cases e
    | tuple zs => cases e
    | dict z => cases e
theorem dpAll_ints {K : PySem.W.Frag} {F : Hp} : ∀ ns : List Int, DpAll K F (ns.map V.int) (ns.map PyData.int)
  | [] => .nil
  | n :: r => .cons (.int n) (dpAll_ints r)
theorem maxI_mem : ∀ (n : Int) (ns : List Int), maxI (n :: ns) ∈ n :: ns ∧ ∀ y ∈ n :: ns, y ≤ maxI (n :: ns)
  | n, [] => ⟨by simp [maxI], fun y h => by simp at h; subst h; simp [maxI]⟩
  | n, m :: r => by
    obtain ⟨h1, h2⟩ := maxI_mem m r
    have e : maxI (n :: m :: r) = max n (maxI (m :: r)) := rfl
    rw [e]
    refine ⟨?_, fun y h => ?_⟩
    · rcases Int.le_total n (maxI (m :: r)) with q | q
      · rw [Int.max_eq_right q]
        exact List.mem_cons_of_mem _ h1
      · rw [Int.max_eq_left q]
        exact List.mem_cons_self
    · rcases List.mem_cons.mp h with rfl | h
      · exact Int.le_max_left _ _
      · exact Int.le_trans (h2 y h) (Int.le_max_right _ _)
theorem minI_mem : ∀ (n : Int) (ns : List Int), minI (n :: ns) ∈ n :: ns ∧ ∀ y ∈ n :: ns, minI (n :: ns) ≤ y
  | n, [] => ⟨by simp [minI], fun y h => by simp at h; subst h; simp [minI]⟩
  | n, m :: r => by
    obtain ⟨h1, h2⟩ := minI_mem m r
    have e : minI (n :: m :: r) = min n (minI (m :: r)) := rfl
    rw [e]
    refine ⟨?_, fun y h => ?_⟩
    · rcases Int.le_total n (minI (m :: r)) with q | q
      · rw [Int.min_eq_left q]
        exact List.mem_cons_self
      · rw [Int.min_eq_right q]
        exact List.mem_cons_of_mem _ h1
    · rcases List.mem_cons.mp h with rfl | h
      · exact Int.min_le_left _ _
      · exact Int.le_trans (Int.min_le_right _ _) (h2 y h)
theorem sortI_perm (xs : List Int) : (sortI xs).Perm xs := List.mergeSort_perm _ _
theorem sortI_sorted (xs : List Int) : (sortI xs).Pairwise (· ≤ ·) := by
  have h := List.pairwise_mergeSort (le := fun a b : Int => decide (a ≤ b)) (fun a b c h1 h2 => by simp at *; omega) (fun a b => by simp; omega) xs
  exact h.imp fun q => by simpa using q
theorem sorted_unique : ∀ {xs ys : List Int}, xs.Perm ys → xs.Pairwise (· ≤ ·) → ys.Pairwise (· ≤ ·) → xs = ys
  | [], ys, p, _, _ => (List.nil_perm.mp p).symm ▸ rfl
  | x :: xs, [], p, _, _ => by simp at p
  | x :: xs, y :: ys, p, h1, h2 => by
    have hx := List.pairwise_cons.mp h1
    have hy := List.pairwise_cons.mp h2
    have e : x = y := by
      have m1 : x ∈ y :: ys := p.subset List.mem_cons_self
      have m2 : y ∈ x :: xs := p.symm.subset List.mem_cons_self
      rcases List.mem_cons.mp m1 with q | q
      · exact q
      · rcases List.mem_cons.mp m2 with q2 | q2
        · exact q2.symm
        · have a1 := hx.1 y q2
          have a2 := hy.1 x q
          omega
    subst e
    rw [sorted_unique (List.Perm.cons_inv p) hx.2 hy.2]

/-- a built-in by what it computes -/
def rBi (K : PySem.W.Frag) (mg : Str → Option Value) (f : Bi) : List V → Hp → VK → Prop := fun vs H Q =>
  ∃ g s xs v, RlS K mg g s H ∧ RepVs K g vs xs ∧ biv f s xs = some v ∧ Want K mg g H s v Q
theorem reps1 {K : PySem.W.Frag} {g : Gh} {vs : List V} {x : Vl} (r : RepVs K g vs [x]) : ∃ v, vs = [v] ∧ RepV K g v x := by
  cases r with
  | cons a b => cases b; exact ⟨_, rfl, a⟩
theorem reps2 {K : PySem.W.Frag} {g : Gh} {vs : List V} {x y : Vl} (r : RepVs K g vs [x, y]) : ∃ v w, vs = [v, w] ∧ RepV K g v x ∧ RepV K g w y := by
  cases r with
  | cons a b =>
    obtain ⟨w, rfl, c⟩ := reps1 b
    exact ⟨_, _, rfl, a, c⟩
theorem bi_len : CallR X (.builtin "len") (rBi X.K X.mg .len) := by
  intro pins s σ H vs us Q I r h
  obtain ⟨g, st, xs, w, R, ra, e, k⟩ := h
  unfold biv at e
  split at e <;> first | contradiction | skip
  · split at e
    · rename_i hz
      cases e
      obtain ⟨v, rfl, rv⟩ := reps1 ra
      have e1 := rel_str rv
      subst e1
      exact call_len_str pins s σ H _ us Q I r ⟨_, rfl, hz, k.go R (rep_int _)⟩
    · cases e
  · split at e
    · rename_i tt ys e1
      cases e
      obtain ⟨v, rfl, rv⟩ := reps1 ra
      cases tt with
      | false =>
        obtain ⟨p, zs, rfl, q1, q2⟩ := seqOf_list e1 R rv
        refine call_len_seq pins s σ H _ us Q I r ⟨p, zs, rfl, .inl q1, ?_⟩
        rw [q2.length]
        exact k.go R (rep_int _)
      | true =>
        obtain ⟨p, zs, rfl, q1, q2⟩ := seqOf_tup e1 R rv
        refine call_len_seq pins s σ H _ us Q I r ⟨p, zs, rfl, .inr q1, ?_⟩
        rw [q2.length]
        exact k.go R (rep_int _)
    · cases e
theorem bi_min2 (hc : X.calm = true) : CallR X (.builtin "min") (rBi X.K X.mg .min2) := by
  intro pins s σ H vs us Q I r h
  obtain ⟨g, st, xs, w, R, ra, e, k⟩ := h
  unfold biv at e
  split at e <;> first | contradiction | skip
  cases e
  obtain ⟨v1, v2, rfl, r1, r2⟩ := reps2 ra
  have e1 := rel_int (u := .none) r1
  have e2 := rel_int (u := .none) r2
  subst e1 e2
  exact call_min2 hc pins s σ H _ us Q I r ⟨_, _, rfl, k.go R (rep_int _)⟩
theorem bi_max2 (hc : X.calm = true) : CallR X (.builtin "max") (rBi X.K X.mg .max2) := by
  intro pins s σ H vs us Q I r h
  obtain ⟨g, st, xs, w, R, ra, e, k⟩ := h
  unfold biv at e
  split at e <;> first | contradiction | skip
  cases e
  obtain ⟨v1, v2, rfl, r1, r2⟩ := reps2 ra
  have e1 := rel_int (u := .none) r1
  have e2 := rel_int (u := .none) r2
  subst e1 e2
  exact call_max2 hc pins s σ H _ us Q I r ⟨_, _, rfl, k.go R (rep_int _)⟩
theorem bi_minL (hc : X.calm = true) : CallR X (.builtin "min") (rBi X.K X.mg .minL) := by
  intro pins s σ H vs us Q I r h
  obtain ⟨g, st, xs, w, R, ra, e, k⟩ := h
  unfold biv at e
  split at e <;> first | contradiction | skip
  split at e <;> first | contradiction | skip
  rename_i ys e1
  split at e <;> first | contradiction | skip
  rename_i n ns e2
  cases e
  obtain ⟨v, rfl, rv⟩ := reps1 ra
  obtain ⟨p, zs, rfl, q1, q2⟩ := flat_list e1 R rv
  have e3 := ints_eq q2 e2
  subst e3
  refine cr_min hc pins s σ H _ us Q I r ⟨p, n :: ns, rfl, q1, by simp, fun m h1 h2 => ?_⟩
  obtain ⟨h3, h4⟩ := minI_mem n ns
  have : m = minI (n :: ns) := Int.le_antisymm (h2 _ h3) (h4 _ h1)
  subst this
  exact k.go R (rep_int _)
theorem bi_maxL (hc : X.calm = true) : CallR X (.builtin "max") (rBi X.K X.mg .maxL) := by
  intro pins s σ H vs us Q I r h
  obtain ⟨g, st, xs, w, R, ra, e, k⟩ := h
  unfold biv at e
  split at e <;> first | contradiction | skip
  split at e <;> first | contradiction | skip
  rename_i ys e1
  split at e <;> first | contradiction | skip
  rename_i n ns e2
  cases e
  obtain ⟨v, rfl, rv⟩ := reps1 ra
  obtain ⟨p, zs, rfl, q1, q2⟩ := flat_list e1 R rv
  have e3 := ints_eq q2 e2
  subst e3
  refine cr_max hc pins s σ H _ us Q I r ⟨p, n :: ns, rfl, q1, by simp, fun m h1 h2 => ?_⟩
  obtain ⟨h3, h4⟩ := maxI_mem n ns
  have : m = maxI (n :: ns) := Int.le_antisymm (h4 _ h1) (h2 _ h3)
  subst this
  exact k.go R (rep_int _)
theorem bi_sum (hc : X.calm = true) : CallR X (.builtin "sum") (rBi X.K X.mg .sum) := by
  intro pins s σ H vs us Q I r h
  obtain ⟨g, st, xs, w, R, ra, e, k⟩ := h
  unfold biv at e
  split at e <;> first | contradiction | skip
  split at e <;> first | contradiction | skip
  rename_i ys e1
  cases e2 : intsOf ys with
  | none => rw [e2] at e; cases e
  | some ns =>
    rw [e2] at e
    cases e
    obtain ⟨v, rfl, rv⟩ := reps1 ra
    obtain ⟨p, zs, rfl, q1, q2⟩ := flat_list e1 R rv
    have e3 := ints_eq q2 e2
    subst e3
    exact cr_sum hc pins s σ H _ us Q I r ⟨p, ns, rfl, q1, k.go R (rep_int _)⟩
theorem bi_all (hc : X.calm = true) : CallR X (.builtin "all") (rBi X.K X.mg .all) := by
  intro pins s σ H vs us Q I r h
  obtain ⟨g, st, xs, w, R, ra, e, k⟩ := h
  unfold biv at e
  split at e <;> first | contradiction | skip
  split at e <;> first | contradiction | skip
  rename_i ys e1
  cases e2 : boolsOf ys with
  | none => rw [e2] at e; cases e
  | some ns =>
    rw [e2] at e
    cases e
    obtain ⟨v, rfl, rv⟩ := reps1 ra
    obtain ⟨p, zs, rfl, q1, q2⟩ := flat_list e1 R rv
    have e3 := bools_eq q2 e2
    subst e3
    exact cr_all hc pins s σ H _ us Q I r ⟨p, ns, rfl, q1, k.go R (rep_bl _)⟩
theorem bi_any (hc : X.calm = true) : CallR X (.builtin "any") (rBi X.K X.mg .any) := by
  intro pins s σ H vs us Q I r h
  obtain ⟨g, st, xs, w, R, ra, e, k⟩ := h
  unfold biv at e
  split at e <;> first | contradiction | skip
  split at e <;> first | contradiction | skip
  rename_i ys e1
  cases e2 : boolsOf ys with
  | none => rw [e2] at e; cases e
  | some ns =>
    rw [e2] at e
    cases e
    obtain ⟨v, rfl, rv⟩ := reps1 ra
    obtain ⟨p, zs, rfl, q1, q2⟩ := flat_list e1 R rv
    have e3 := bools_eq q2 e2
    subst e3
    exact cr_any hc pins s σ H _ us Q I r ⟨p, ns, rfl, q1, k.go R (rep_bl _)⟩
/-! sorted pairs -/
theorem pairs_dp {K : PySem.W.Frag} {F : Hp} : ∀ {vs : List V} {xs : List PyData} {ps : List (Int × Int)}, DpAll K F vs xs → pairsOf xs = some ps → xs = ps.map prD
  | _, _, _, .nil, e => by cases e; rfl
  | _, _, _, .cons (d := d) (ds := ds) a r, e => by
    unfold pairsOf at e
    split at e
    · cases ‹_ = []›
    · rename_i x y rr heq
      cases heq
      cases h : pairsOf ds with
      | none => rw [h] at e; cases e
      | some qs =>
        rw [h] at e
        cases e
        rw [List.map_cons, ← pairs_dp r h]
        rfl
    · cases e
open Classical in
/-- the pair that a value is -/
noncomputable def pairK (h : Heap) (u : Value) : Int × Int := if q : ∃ p : Int × Int, Srt.IsPair h u p.1 p.2 then q.choose else (0, 0)
theorem isPair_inj {h : Heap} {u : Value} {x y x' y' : Int} (a : Srt.IsPair h u x y) (b : Srt.IsPair h u x' y') : x = x' ∧ y = y' := by
  obtain ⟨t, o, t1, t2, n, e, ho, hc, hd⟩ := a
  obtain ⟨t', o', t1', t2', n', e', ho', hc', hd'⟩ := b
  subst e
  cases e'
  rw [ho] at ho'
  cases ho'
  rw [hd] at hd'
  cases hd'
  exact ⟨rfl, rfl⟩
theorem pairK_eq {h : Heap} {u : Value} {p : Int × Int} (a : Srt.IsPair h u p.1 p.2) : pairK h u = p := by
  have q : ∃ p : Int × Int, Srt.IsPair h u p.1 p.2 := ⟨p, a⟩
  unfold pairK
  rw [dif_pos q]
  obtain ⟨h1, h2⟩ := isPair_inj q.choose_spec a
  exact Prod.ext h1 h2
theorem lexLe_of {p q : Int × Int} (h : SrtO.lexB q p = false) : lexLe p q = true := by
  have := SrtO.lexB_no.mp h
  unfold lexLe
  simp
  omega
theorem lex_anti {p q : Int × Int} (h1 : lexLe p q = true) (h2 : lexLe q p = true) : p = q := by
  unfold lexLe at h1 h2
  simp at h1 h2
  exact Prod.ext (by omega) (by omega)
theorem lex_trans (a b c : Int × Int) (h1 : lexLe a b = true) (h2 : lexLe b c = true) : lexLe a c = true := by
  unfold lexLe at *
  simp at *
  omega
theorem lex_total (a b : Int × Int) : (lexLe a b || lexLe b a) = true := by
  unfold lexLe
  simp
  omega
theorem sortP_perm (xs : List (Int × Int)) : (sortP xs).Perm xs := List.mergeSort_perm _ _
theorem sortP_sorted (xs : List (Int × Int)) : (sortP xs).Pairwise fun a b => lexLe a b = true := List.pairwise_mergeSort lex_trans lex_total xs
theorem sortP_unique {a b : List (Int × Int)} (hp : a.Perm b) (h1 : a.Pairwise fun p q => lexLe p q = true) (h2 : b.Pairwise fun p q => lexLe p q = true) : a = b :=
  hp.eq_of_pairwise (fun _ _ _ _ h3 h4 => lex_anti h3 h4) h1 h2
theorem bi_sortedP {pins : List (Addr × Obj)} {s : Shared} {σ : L2.St} {H : Hp} {us : List Value} {Q : VK} {g : Gh} {st : Sto} {p : Addr} {zs : List V} {ps : List (Int × Int)} (I : Inv X pins σ H s) (r : Vals [V.ref p] us) (R : RlS X.K X.mg g st H) (q1 : SqL X.K H p zs) (q2 : DpAll X.K g.F zs (ps.map prD))
    (k : Want X.K X.mg g H st (.d (.list ((sortP ps).map prD))) Q) : wpAny (model X.prog X.w) X.A (call (.builtin "sorted") us) (EP X pins σ Q) X.xe s := by
  obtain ⟨its, rv, hl, hz⟩ := I.list q1
  obtain ⟨u, rfl, ru⟩ := vals1 r
  obtain rfl : u = Value.ref p := ru
  /- every item is a pair, and what the values stand for -/
  have key : ∀ {vs : List V} {us : List Value} {ps : List (Int × Int)}, Vals vs us → DpAll X.K g.F vs (ps.map prD) → us.map (pairK s.heap) = ps ∧ ∀ u ∈ us, (∃ a, u = Value.ref a) ∧ Srt.IsPair s.heap u (pairK s.heap u).1 (pairK s.heap u).2 ∧ Dp X.K g.F (backV u) (prD (pairK s.heap u)) := by
    intro vs us ps rv
    induction rv generalizing ps with
    | nil =>
      intro d
      cases ps with
      | nil => exact ⟨rfl, fun u hu => by cases hu⟩
      | cons a b => cases d
    | cons rr tt ih =>
      intro d
      cases ps with
      | nil => cases d
      | cons a b =>
        cases d with
        | cons d1 d2 =>
          obtain ⟨i1, i2⟩ := ih d2
          have d1' := d1
          cases d1 with
          | tup h1 h2 =>
            obtain ⟨its2, rv2, ht, _⟩ := I.tuple (sqT_same R.fro h1)
            cases h2 with
            | cons a1 a2 =>
              cases a2 with
              | cons a3 a4 =>
                cases a4
                cases a1
                cases a3
                obtain ⟨w1, w2, rfl, r1, r2⟩ := vals2 rv2
                obtain ⟨t1, rfl⟩ := r1
                obtain ⟨t2, rfl⟩ := r2
                cases rr
                obtain ⟨o, ho, hc, n, hd⟩ := ht
                have hp : Srt.IsPair s.heap _ a.1 a.2 := ⟨_, o, t1, t2, n, rfl, ho, hc, hd⟩
                have e := pairK_eq hp
                refine ⟨by rw [List.map_cons, e, i1], fun u hu => ?_⟩
                rcases List.mem_cons.mp hu with z | z
                · subst z
                  refine ⟨⟨_, rfl⟩, by rw [e]; exact hp, by rw [e]; exact d1'⟩
                · exact i2 u z
  obtain ⟨k1, k2⟩ := key rv q2
  refine SrtO.sorted_pairsO (k := pairK s.heap) hl.isList (by rw [← rv.length]; exact hz) (fun v hv => (k2 v hv).2.1) fun h' d out h1 h2 kp hd hn => ?_
  have h3 : ∀ u ∈ out, (∃ a, u = Value.ref a) ∧ Srt.IsPair s.heap u (pairK s.heap u).1 (pairK s.heap u).2 ∧ Dp X.K g.F (backV u) (prD (pairK s.heap u)) := fun u hu => k2 u (h2.perm.mem_iff.mp hu)
  obtain ⟨n, hn⟩ := hn
  have eo : out.map (pairK s.heap) = sortP ps := by
    refine sortP_unique ?_ ?_ (sortP_sorted ps)
    · rw [← k1]
      exact ((h2.perm.map _)).trans (sortP_perm _).symm
    · rw [List.pairwise_map]
      exact List.Pairwise.imp (fun h => lexLe_of h) h1
  have dps : DpAll X.K g.F (out.map backV) ((sortP ps).map prD) := by
    rw [← eo, List.map_map]
    have gen : ∀ l : List Value, (∀ u ∈ l, Dp X.K g.F (backV u) (prD (pairK s.heap u))) → DpAll X.K g.F (l.map backV) (l.map (prD ∘ pairK s.heap)) := by
      intro l
      induction l with
      | nil => intro _; exact .nil
      | cons a b ih => intro h; exact .cons (h a (by simp)) (ih fun u hu => h u (List.mem_cons_of_mem _ hu))
    exact gen out fun u hu => (h3 u hu).2.2
  have hfree := I.hok.fresh hd
  refine ⟨.ref d, upd H d (.lst (out.map backV)), I.laid (t' := s.toks) kp hd ⟨?_, out, n, vals_back (fun u hu => (h3 u hu).1), hn⟩, rfl, k.lst R hfree dps⟩
  rw [List.length_map, h2.perm.length_eq, ← rv.length]
  exact hz
theorem bi_sorted : CallR X (.builtin "sorted") (rBi X.K X.mg .sorted) := by
  intro pins s σ H vs us Q I r h
  obtain ⟨g, st, xs, w, R, ra, e, k⟩ := h
  unfold biv at e
  split at e <;> first | contradiction | skip
  split at e <;> first | contradiction | skip
  rename_i ys e1
  obtain ⟨v, rfl, rv⟩ := reps1 ra
  obtain ⟨p, zs, rfl, q1, q2⟩ := flat_list e1 R rv
  split at e
  · rename_i ns e2
    cases e
    have e3 := ints_eq q2 e2
    subst e3
    refine cr_sortedI pins s σ H _ us Q I r ⟨p, ns, rfl, q1, fun ns' p' h1 h2 hp => ?_⟩
    have : ns' = sortI ns := sorted_unique (h1.trans (sortI_perm ns).symm) h2 (sortI_sorted ns)
    subst this
    exact k.lst R hp (dpAll_ints _)
  · obtain ⟨ps, e2, rfl⟩ := Option.map_eq_some_iff.mp e
    rw [pairs_dp q2 e2] at q2
    exact bi_sortedP I r R q1 q2 k
theorem bi_list : CallR X (.type "list") (rBi X.K X.mg .list) := by
  intro pins s σ H vs us Q I r h
  obtain ⟨g, st, xs, w, R, ra, e, k⟩ := h
  unfold biv at e
  split at e <;> first | contradiction | skip
  split at e <;> first | contradiction | skip
  rename_i tt ys e1
  cases e
  obtain ⟨v, rfl, rv⟩ := reps1 ra
  cases tt with
  | false =>
    obtain ⟨p, zs, rfl, q1, q2⟩ := flat_list e1 R rv
    exact call_list_of pins s σ H _ us Q I r ⟨p, zs, rfl, .inl q1, fun l hl => k.lst R hl q2⟩
  | true =>
    obtain ⟨p, zs, rfl, q1, q2⟩ := flat_tup e1 R rv
    exact call_list_of pins s σ H _ us Q I r ⟨p, zs, rfl, .inr q1, fun l hl => k.lst R hl q2⟩
theorem flat_tup_rep {K : PySem.W.Frag} {g : Gh} {s : Sto} {v : Vl} {w : V} {xs : List PyData} (e : flat s v = some (true, xs)) (r : RepV K g w v) : RepV K g w (.d (.tuple xs)) := by
  cases v with
  | d x =>
    cases x with
    | tuple zs => cases e; exact r
    | none => cases e
    | bool b => cases e
    | int i => cases e
    | str z => cases e
    | list zs => cases e
    | dict z => cases e
  | loc n =>
    cases h : s[n]? with
    | none => simp only [flat, h] at e; cases e
    | some o =>
      simp only [flat, h] at e
      cases o with
      | lst vs =>
        cases h5 : allD vs with
        | none => simp only [h5] at e; cases e
        | some ds => simp only [h5] at e; cases e
      | ins c fs => cases e
      | dead => cases e
  | mix vs => cases e
theorem bi_tuple : CallR X (.type "tuple") (rBi X.K X.mg .tuple) := by
  intro pins s σ H vs us Q I r h
  obtain ⟨g, st, xs, w, R, ra, e, k⟩ := h
  unfold biv at e
  split at e <;> first | contradiction | skip
  split at e <;> first | contradiction | skip
  rename_i tt ys e1
  cases e
  obtain ⟨v, rfl, rv⟩ := reps1 ra
  cases tt with
  | false =>
    obtain ⟨p, zs, rfl, q1, q2⟩ := flat_list e1 R rv
    exact call_tuple_of pins s σ H _ us Q I r ⟨p, zs, rfl, .inl ⟨q1, fun l hl => k.tup R hl q2⟩⟩
  | true =>
    have rv' := flat_tup_rep e1 rv
    obtain ⟨p, zs, rfl, q1, q2⟩ := flat_tup e1 R rv
    exact call_tuple_of pins s σ H _ us Q I r ⟨p, zs, rfl, .inr ⟨q1, k.go R rv'⟩⟩
theorem bi_int : CallR X (.type "int") (rBi X.K X.mg .int) := by
  intro pins s σ H vs us Q I r h
  obtain ⟨g, st, xs, w, R, ra, e, k⟩ := h
  unfold biv at e
  split at e <;> first | contradiction | skip
  · cases e
    obtain ⟨v, rfl, rv⟩ := reps1 ra
    have e1 := rel_int (u := .none) rv
    subst e1
    exact call_int1 pins s σ H _ us Q I r (.inl ⟨_, rfl, k.go R (rep_int _)⟩)
  · cases e
    obtain ⟨v, rfl, rv⟩ := reps1 ra
    have e1 := rel_bl rv
    subst e1
    exact call_int1 pins s σ H _ us Q I r (.inr ⟨_, rfl, k.go R (rep_int _)⟩)
theorem bi_str : CallR X (.type "str") (rBi X.K X.mg .str) := by
  intro pins s σ H vs us Q I r h
  obtain ⟨g, st, xs, w, R, ra, e, k⟩ := h
  unfold biv at e
  split at e <;> first | contradiction | skip
  split at e <;> first | contradiction | skip
  rename_i hz
  cases e
  obtain ⟨v, rfl, rv⟩ := reps1 ra
  have e1 := rel_int (u := .none) rv
  subst e1
  exact call_str_int pins s σ H _ us Q I r ⟨_, rfl, hz, k.go R (rep_str _)⟩
theorem bi_abs : CallR X (.builtin "abs") (rBi X.K X.mg .abs) := by
  intro pins s σ H vs us Q I r h
  obtain ⟨g, st, xs, w, R, ra, e, k⟩ := h
  unfold biv at e
  split at e <;> first | contradiction | skip
  cases e
  obtain ⟨v, rfl, rv⟩ := reps1 ra
  have e1 := rel_int (u := .none) rv
  subst e1
  exact call_abs pins s σ H _ us Q I r ⟨_, rfl, k.go R (rep_int _)⟩
theorem bi_repr (hg : X.A.guards = some []) (hu : X.A.units + 100 < cLine) : CallR X (.builtin "repr") (rBi X.K X.mg .repr) := by
  intro pins s σ H vs us Q I r h
  obtain ⟨g, st, xs, w, R, ra, e, k⟩ := h
  unfold biv at e
  split at e <;> first | contradiction | skip
  split at e <;> first | contradiction | skip
  rename_i d e1
  split at e <;> first | contradiction | skip
  rename_i hs
  cases e
  obtain ⟨v, rfl, rv⟩ := reps1 ra
  unfold showOk at hs
  rw [Bool.and_eq_true, Bool.and_eq_true, Bool.and_eq_true, Bool.and_eq_true, decide_eq_true_eq, decide_eq_true_eq] at hs
  obtain ⟨⟨⟨⟨h0, h1⟩, h2⟩, h3⟩, h4⟩ := hs
  have h2 : d.hasDict = false := by simpa using h2
  obtain ⟨u, rfl, ru⟩ := vals1 r
  have hd := datV_dp e1 R rv
  obtain ⟨as, rd⟩ := Dp.reads I _ _ u hd ru
  have fin : ∀ (h' : Heap) (u : Tok) (tk : Nat), (∀ b o, s.heap.get? b = some o → h'.get? b = some o) → EP X pins σ Q (.str d.shown u) { s with heap := h', toks := tk } := fun h' u tk hk =>
    ⟨.str d.shown, H, I.kept hk, ⟨_, rfl⟩, k.go R (rep_str _)⟩
  cases hd with
  | lst a1 a2 =>
    cases ru
    exact repr_of_reads' rd h1 (PyData.noDict_hsm h2) hg (by omega) (fun _ _ h => h) (fun h' u tk hk => fin h' u tk hk) h4
  | tup a1 a2 =>
    cases ru
    exact repr_of_reads' rd h1 (PyData.noDict_hsm h2) hg (by omega) (fun _ _ h => h) (fun h' u tk hk => fin h' u tk hk) h4
  | non => cases h0
  | bl b => cases h0
  | int i => cases h0
  | str z => cases h0

/-! ### isinstance -/
def dTy : PyData → String
  | .none => "NoneType"
  | .bool _ => "bool"
  | .int _ => "int"
  | .str _ => "str"
  | .list _ => "list"
  | .tuple _ => "tuple"
  | .dict _ => "dict"
def tyN : Ty → String
  | .bool => "bool"
  | .int => "int"
  | .str => "str"
  | .list => "list"
  | .tuple => "tuple"
theorem tyX_of {K : PySem.W.Frag} {H : Hp} {v : V} {x : PyData} (h : Dp K H v x) : TyX K H v (.type (dTy x)) := by
  cases h with
  | non => exact .base .non
  | bl b => exact .base (.bl b)
  | int i => exact .base (.int i)
  | str z => exact .base (.str z)
  | lst h1 _ =>
    rcases h1 with (h1 | ⟨o, h1⟩) | ⟨o, its, n, h1, h2, _⟩
    · exact .base (.lst h1)
    · exact .base (.frz h1)
    · exact .kList h1 h2
  | tup h1 _ =>
    rcases h1 with (h1 | ⟨o, h1⟩) | ⟨o, its, n, h1, h2, _⟩
    · exact .base (.tup h1)
    · exact .fTuple h1
    · exact .kTuple h1 h2
theorem kit_one {K : PySem.W.Frag} {H : Hp} {v : V} {x : PyData} (s : Sto) (h : Dp K H v x) (t : Ty) : PySem.W.kitOne K (.type (dTy x)) (.type (tyN t)) = some (tyIs s (.d x) t) := by
  cases h <;> cases t <;> dsimp only [dTy, tyN, tyIs] <;> exact kit_ty (by decide +kernel)
theorem kit_all {K : PySem.W.Frag} {H : Hp} {v : V} {x : PyData} (s : Sto) (h : Dp K H v x) : ∀ ts : List Ty, PySem.W.kitAny K (.type (dTy x)) (ts.map fun t => .type (tyN t)) = some (ts.any (tyIs s (.d x)))
  | [] => kitAny_nil
  | t :: ts => by
    rw [List.map_cons]
    refine kitAny_cons (kit_one s h t) (fun e => ?_) fun e => ?_
    · rw [List.any_cons, e, Bool.false_or]
      exact kit_all s h ts
    · rw [List.any_cons, e, Bool.true_or]
/-- the kind of a value, whether it is one of a kind -/
theorem isi_ty {K : PySem.W.Frag} {mg : Str → Option Value} {g : Gh} {st : Sto} {H : Hp} {w : V} {a : Vl} {ts : List Ty} {v : Vl} (R : RlS K mg g st H) (ra : RepV K g w a) (e : isiv st a ts = some v) :
    ∃ (nm : String) (f : Ty → Bool), TyX K H w (.type nm) ∧ v = .d (.bool (ts.any f)) ∧ ∀ t, PySem.W.kitOne K (.type nm) (.type (tyN t)) = some (f t) := by
  cases a with
  | d x =>
    cases e
    cases ra with
    | d hd => exact ⟨dTy x, tyIs st (.d x), tyX_of (dp_same R.fro hd), rfl, kit_one st (dp_same R.fro hd)⟩
  | loc n =>
    cases ra with
    | loc hp =>
      have e' : (match st[n]? with
        | some (.lst _) => some (Vl.d (.bool (ts.any (· == .list))))
        | _ => none) = some v := e
      split at e'
      · rename_i vs hs
        cases e'
        obtain ⟨_, xs, hx, _⟩ := R.obj _ _ _ hp hs
        exact ⟨"list", fun t => t == .list, .base (.lst hx), rfl, fun t => by cases t <;> exact kit_ty (by decide +kernel)⟩
      · cases e'
  | mix vs =>
    cases e
    cases ra with
    | mix hT _ =>
      refine ⟨"tuple", fun t => t == .tuple, ?_, rfl, fun t => by cases t <;> exact kit_ty (by decide +kernel)⟩
      rcases sqT_same R.fro hT with (h1 | ⟨o, h1⟩) | ⟨o, its, n, h1, h2, _⟩
      · exact .base (.tup h1)
      · exact .fTuple h1
      · exact .kTuple h1 h2
theorem kit_allF {K : PySem.W.Frag} {nm : String} {f : Ty → Bool} (h : ∀ t, PySem.W.kitOne K (.type nm) (.type (tyN t)) = some (f t)) : ∀ ts : List Ty, PySem.W.kitAny K (.type nm) (ts.map fun t => .type (tyN t)) = some (ts.any f)
  | [] => kitAny_nil
  | t :: ts => by
    rw [List.map_cons]
    refine kitAny_cons (h t) (fun e => ?_) fun e => ?_
    · rw [List.any_cons, e, Bool.false_or]
      exact kit_allF h ts
    · rw [List.any_cons, e, Bool.true_or]
theorem isi1 {pins : List (Addr × Obj)} {s : Shared} {σ : L2.St} {H : Hp} {xs : List V} {us : List Value} {Q : VK} (I : Inv X pins σ H s) (r : Vals xs us)
    (h : ∃ g st a t w v, xs = [w, .ty (tyN t)] ∧ RlS X.K X.mg g st H ∧ RepV X.K g w a ∧ isiv st a [t] = some v ∧ Want X.K X.mg g H st v Q) : wpAny (model X.prog X.w) X.A (call (.builtin "isinstance") us) (EP X pins σ Q) X.xe s := by
  obtain ⟨g, st, a, t, w, v, rfl, R, ra, e, k⟩ := h
  obtain ⟨nm, f, h1, rfl, h3⟩ := isi_ty R ra e
  refine call_isi pins s σ H _ us Q I r ⟨w, .ty (tyN t), .type nm, .type (tyN t), _, rfl, .ty _, h1, h3 t, ?_⟩
  have : [t].any f = f t := by simp
  rw [this] at k
  exact k.go R (rep_bl _)
theorem isiT {pins : List (Addr × Obj)} {s : Shared} {σ : L2.St} {H : Hp} {xs : List V} {us : List Value} {Q : VK} (I : Inv X pins σ H s) (r : Vals xs us)
    (h : ∃ g st a ts w v tp, xs = [w, .ref tp] ∧ H tp = some (.tup (ts.map fun t => V.ty (tyN t))) ∧ RlS X.K X.mg g st H ∧ RepV X.K g w a ∧ isiv st a ts = some v ∧ Want X.K X.mg g H st v Q) : wpAny (model X.prog X.w) X.A (call (.builtin "isinstance") us) (EP X pins σ Q) X.xe s := by
  obtain ⟨g, st, a, ts, w, v, tp, rfl, hT, R, ra, e, k⟩ := h
  have cls : ∀ ts : List Ty, Paired ClsV (ts.map fun t => V.ty (tyN t)) (ts.map fun t => Value.type (tyN t)) := fun ts => by
    induction ts with
    | nil => exact .nil
    | cons t ts ih => exact .cons (.ty _) ih
  obtain ⟨nm, f, h1, rfl, h3⟩ := isi_ty R ra e
  exact call_isiT pins s σ H _ us Q I r ⟨w, tp, _, .type nm, _, _, rfl, hT, cls ts, h1, kit_allF h3 ts, k.go R (rep_bl _)⟩

/-! ### slices -/
theorem cutV_rep {K : PySem.W.Frag} {F : Hp} {vs : List V} {xs : List PyData} (r : DpAll K F vs xs) (lo hi : Option Int) : DpAll K F (cutV vs lo hi) (cutD xs lo hi) := by
  unfold cutV cutD
  rw [dpAll_length r]
  exact dpAll_take _ (dpAll_drop _ r)
theorem newL_ok {K : PySem.W.Frag} {mg : Str → Option Value} {g : Gh} {H : Hp} {s s' : Sto} {z : Bool} {v : Vl} {vs : List Vl} {ws : List V} {p : Addr} {Q : VK} (e : newL z vs s = some (v, s')) (R : RlS K mg g s H) (hp : H p = none) (r : RepVs K g ws vs) (k : Want K mg g H s' v Q) : Q (.ref p) (upd H p (.lst ws)) := by
  unfold newL at e
  split at e
  · cases h5 : allD vs with
    | none => rw [h5] at e; cases e
    | some ds =>
      rw [h5] at e
      cases e
      exact k.lst R hp (r.data h5)
  · cases e
    have hn : p ∉ g.ph := fun z => R.there z hp
    have R1 := R.grow (same_new (o := .lst ws) hp)
    have R2 := R1.take2 upd_same hn (R.fro.free hp) r
    refine k _ _ _ R2 ⟨fun a u e hm => same_new hp _ _ e, Same.refl _, fun _ h => .inl h, List.prefix_append _ _, fun a h => ?_⟩ (.loc ?_)
    · rcases List.mem_append.mp h with h | h
      · exact .inl h
      · have : a = p := by simpa using h
        exact .inr (by rw [this]; exact hp)
    · show (g.ph ++ [p])[s.length]? = some p
      rw [← R.len, List.getElem?_append_right (Nat.le_refl _)]
      simp
theorem repVs_take {K : PySem.W.Frag} {g : Gh} : ∀ (n : Nat) {vs : List V} {xs : List Vl}, RepVs K g vs xs → RepVs K g (vs.take n) (xs.take n)
  | 0, _, _, _ => .nil
  | n + 1, _, _, .nil => .nil
  | n + 1, _, _, .cons a r => .cons a (repVs_take n r)
theorem repVs_drop {K : PySem.W.Frag} {g : Gh} : ∀ (n : Nat) {vs : List V} {xs : List Vl}, RepVs K g vs xs → RepVs K g (vs.drop n) (xs.drop n)
  | 0, _, _, r => r
  | n + 1, _, _, .nil => .nil
  | n + 1, _, _, .cons a r => repVs_drop n r
theorem cutV_repVs {K : PySem.W.Frag} {g : Gh} {vs : List V} {xs : List Vl} (r : RepVs K g vs xs) (lo hi : Option Int) : RepVs K g (cutV vs lo hi) (cutD xs lo hi) := by
  unfold cutV cutD
  rw [r.length]
  exact repVs_take _ (repVs_drop _ r)
/-- a slice by what it computes -/
def rSlc (K : PySem.W.Frag) (mg : Str → Option Value) : V → Option Int → Option Int → Hp → VK → Prop := fun x lo hi H Q =>
  ∃ g s a v s', RlS K mg g s H ∧ RepV K g x a ∧ slcV s a lo hi = some (v, s') ∧ Want K mg g H s' v Q
theorem sl_any : SlR X (rSlc X.K X.mg) := by
  intro pins s σ H x v vl vu lo hi sl Q I rx hs pl pu h
  obtain ⟨g, st, a, w, st', R, ra, e, k⟩ := h
  cases a with
  | d d =>
    cases d with
    | str z =>
      simp only [slcV] at e
      split at e
      · rename_i hz
        cases e
        have e1 := rel_str ra
        subst e1
        exact sl_str pins s σ H _ v vl vu lo hi sl Q I rx hs pl pu ⟨_, rfl, hz, k.go R (rep_str _)⟩
      · cases e
    | list ys =>
      cases e
      have e1 : flat st (.d (.list ys)) = some (false, ys) := rfl
      obtain ⟨p, zs, rfl, q1, q2⟩ := flat_list e1 R ra
      exact sl_list pins s σ H _ v vl vu lo hi sl Q I rx hs pl pu ⟨p, zs, rfl, q1, fun l hl => k.lst R hl (cutV_rep q2 lo hi)⟩
    | tuple ys =>
      cases e
      have e1 : flat st (.d (.tuple ys)) = some (true, ys) := rfl
      have ra' := flat_tup_rep e1 ra
      obtain ⟨p, zs, rfl, q1, q2⟩ := flat_tup e1 R ra
      refine sl_tupA pins s σ H _ v vl vu lo hi sl Q I rx hs pl pu ⟨p, zs, rfl, q1, fun cc => ?_, fun c l hl => k.tup R hl (cutV_rep q2 lo hi)⟩
      have : cutD ys lo hi = ys := by
        unfold cutD
        rw [← dpAll_length q2, cc.1, cc.2]
        simp [dpAll_length q2]
      rw [this] at k
      exact k.go R ra'
    | none => cases e
    | bool b => cases e
    | int b => cases e
    | dict b => cases e
  | loc n =>
    simp only [slcV] at e
    split at e
    · rename_i vs hn
      split at e
      · rename_i ys hy
        cases e
        have e1 : flat st (.loc n) = some (false, ys) := by simp only [flat, hn, hy]
        obtain ⟨p, zs, rfl, q1, q2⟩ := flat_list e1 R ra
        exact sl_list pins s σ H _ v vl vu lo hi sl Q I rx hs pl pu ⟨p, zs, rfl, q1, fun l hl => k.lst R hl (cutV_rep q2 lo hi)⟩
      · cases ra with
        | loc hp =>
          obtain ⟨o, h1, h2⟩ := R.live hp
          rw [hn] at h1
          cases h1
          obtain ⟨f, zs, h3, h4⟩ := h2
          exact sl_list pins s σ H _ v vl vu lo hi sl Q I rx hs pl pu ⟨_, zs, rfl, SqL.of h3, fun l hl => newL_ok e R hl (cutV_repVs h4 lo hi) k⟩
    · cases e
  | mix q => cases e
end
end MP

/-! MP5: expressions: what is computed is what the model's expression gives. -/
namespace MP
open PySem PySem.Spec PyProof.Rows L2

/-! ### what is asked by what is computed -/
section
variable (K : PySem.W.Frag) (mg : Str → Option Value)
def WantA (g : Gh) (H : Hp) (s : Sto) (vs : List Vl) (Q : List V → Hp → Prop) : Prop :=
  ∀ g' ws H', RlS K mg g' s H' → Stp g H g' H' → RepVs K g' ws vs → Q ws H'
def WantT (g : Gh) (H : Hp) (s : Sto) (b : Bool) (Q : Bool → Hp → Prop) : Prop :=
  ∀ g' H', RlS K mg g' s H' → Stp g H g' H' → Q b H'
def TIe (ev : Nv → Sto → Option (Vl × Sto)) : TE := fun σ H Q => ∃ g r s v s', StR K mg g r s σ H ∧ ev r s = some (v, s') ∧ Want K mg g H s' v Q
def TIa (ev : Nv → Sto → Option (List Vl × Sto)) : TA := fun σ H Q => ∃ g r s v s', StR K mg g r s σ H ∧ ev r s = some (v, s') ∧ WantA K mg g H s' v Q
def TIt (ev : Nv → Sto → Option (Vl × Sto)) : TT := fun σ H Q => ∃ g r s b s', StR K mg g r s σ H ∧ ev r s = some (.d (.bool b), s') ∧ WantT K mg g H s' b Q
/-- a call by what it computes -/
def spI (f : List Vl → Sto → Option (Vl × Sto)) : List V → Hp → VK → Prop := fun vs H Q =>
  ∃ g s xs v s', RlS K mg g s H ∧ RepVs K g vs xs ∧ f xs s = some (v, s') ∧ Want K mg g H s' v Q
end

theorem PE.imp {X : Cx} {e : Expr} {t t' : TE} (h : PE X e t) (k : ∀ σ H Q, t' σ H Q → t σ H Q) : PE X e t' := ⟨fun pins s σ H Q I q => h.run pins s σ H Q I (k σ H Q q)⟩
theorem PT.imp {X : Cx} {e : Expr} {t t' : TT} (h : PT X e t) (k : ∀ σ H Q, t' σ H Q → t σ H Q) : PT X e t' := ⟨fun pins s σ H Q I q => h.run pins s σ H Q I (k σ H Q q)⟩
theorem PW.imp {X : Cx} {e : Expr} {t t' : TT} (h : PW X e t) (k : ∀ σ H Q, t' σ H Q → t σ H Q) : PW X e t' := ⟨fun wh pins s σ H Q I q => h.run wh pins s σ H Q I (k σ H Q q)⟩
theorem PA.imp {X : Cx} {e : List Expr} {t t' : TA} (h : PA X e t) (k : ∀ σ H Q, t' σ H Q → t σ H Q) : PA X e t' := ⟨fun pos pins s σ H Q I q => h.run pos pins s σ H Q I (k σ H Q q)⟩

/-! ### a def's promise, where nothing is shown meanwhile -/
structure FnG (P : Program) (w : World) (K : PySem.W.Frag) (mg : Str → Option Value) (base : Heap) (k : Nat) (f : Addr) (fd : FuncData) (ps : List Str) (sp : List V → Hp → VK → Prop) : Prop where
  len : ∀ vs H Q, sp vs H Q → vs.length = ps.length
  run : ∀ (A : Around) (outer : List Env) (s : Shared) (H : Hp) (args : Args) (us : List Value) (vs : List V) (Q : VK), Room k A → A.guards = some [] → Env0 P w K mg base A outer s H →
    BindsTo s fd args (ps.zip us) → Vals vs us → sp vs H Q → codeAny (model P w) A (.call (.ref f) args) (CR CX0 outer P w H s Q E0) s
theorem FnG.up {P : Program} {w : World} {K : PySem.W.Frag} {mg : Str → Option Value} {base : Heap} {j k : Nat} {f : Addr} {fd : FuncData} {ps : List Str} {sp : List V → Hp → VK → Prop} (F : FnG P w K mg base j f fd ps sp) (h : j ≤ k) :
    FnG P w K mg base k f fd ps sp := ⟨F.len, fun A outer s H args us vs Q hr => F.run A outer s H args us vs Q (hr.mono h)⟩

/-- the names of built-ins that are called -/
def bltNames : List Str := ["len", "min", "max", "sum", "all", "any", "sorted", "list", "tuple", "int", "str", "repr", "abs", "isinstance", "range", "zip", "enumerate", "reversed", "bool"]

/-- a constant of the module -/
def CoV (K : PySem.W.Frag) (w : World) (v : V) : PyData → Prop
  | .dict kvs => ∃ d es n, v = .ref d ∧ KDict K w d es n ∧ ∀ z, ∃ r, PySem.W.nsIn K d z = some r ∧ match dget kvs z with
    | none => r = none
    | some x => ∃ u0 v0, r = some u0 ∧ RelV v0 u0 ∧ Dp K (fun _ => none) v0 x
  | .none => Dp K (fun _ => none) v .none
  | .bool b => Dp K (fun _ => none) v (.bool b)
  | .int i => Dp K (fun _ => none) v (.int i)
  | .str x => Dp K (fun _ => none) v (.str x)
  | .list xs => Dp K (fun _ => none) v (.list xs)
  | .tuple xs => Dp K (fun _ => none) v (.tuple xs)
theorem CoV.dp {K : PySem.W.Frag} {w : World} {v : V} : ∀ {d : PyData}, isDct d = false → CoV K w v d → Dp K (fun _ => none) v d
  | .none, _, h => h
  | .bool _, _, h => h
  | .int _, _, h => h
  | .str _, _, h => h
  | .list _, _, h => h
  | .tuple _, _, h => h
  | .dict _, e, _ => by cases e
theorem CoV.of {K : PySem.W.Frag} {w : World} {v : V} : ∀ {d : PyData}, isDct d = false → Dp K (fun _ => none) v d → CoV K w v d
  | .none, _, h => h
  | .bool _, _, h => h
  | .int _, _, h => h
  | .str _, _, h => h
  | .list _, _, h => h
  | .tuple _, _, h => h
  | .dict _, e, _ => by cases e
/-- what is known where a body runs -/
structure Okx (G : Cn) (k : Nat) (X : Cx) : Prop where
  calm : X.calm = true
  nd : X.N.Nodup
  gu : X.A.guards = some []
  room : Room k X.A
  con : ∀ x d, G.con x = some d → ∃ u v, X.mg x = some u ∧ RelV v u ∧ CoV X.K X.w v d
  blt : ∀ x ∈ bltNames, X.mg x = none
  run : ∀ f vs s v s', ko f = false → G.run f vs s = some (v, s') → ∃ fa fd ps, X.mg (bs f) = some (.ref fa) ∧ PySem.W.keepIn X.K (.ref fa) = true ∧ FnG X.prog X.w X.K X.mg X.base k fa fd ps (spI X.K X.mg (G.run f)) ∧ Binds X.K fd ps []
  runk : ∀ f vs ks us s v s', G.runk f vs ks us s = some (v, s') → us.length = ks.length → ∃ fa fd ps is ws dV dv dd, X.mg (bs f) = some (.ref fa) ∧ PySem.W.keepIn X.K (.ref fa) = true ∧ FnG X.prog X.w X.K X.mg X.base k fa fd ps (spI X.K X.mg (G.run f)) ∧
    Vals dV dv ∧ DpAll X.K (fun _ => none) dV dd ∧ takeK (us ++ dd.map Vl.d) is = some ws ∧ G.run f (vs ++ ws) s = some (v, s') ∧ ∀ (sh : Shared) (uv wv zv : List Value), X.K.In sh.heap → uv.length = vs.length → wv.length = ks.length → takeK (wv ++ dv) is = some zv → BindsTo sh fd ⟨uv, ks.zip wv⟩ (ps.zip (uv ++ zv))

section
variable {G : Cn} {k : Nat} {X : Cx}
theorem Okx.un (o : Okx G k X) : X.A.units + 150 < cLine := by have := o.room.un; omega
theorem Okx.call (o : Okx G k X) {fa : Addr} {fd : FuncData} {ps : List Str} {sp : List V → Hp → VK → Prop} (F : FnG X.prog X.w X.K X.mg X.base k fa fd ps sp) (hb : Binds X.K fd ps []) : CallR X (.ref fa) sp := by
  intro pins s σ H vs us Q I r h
  have hl : us.length = ps.length := by rw [← r.length]; exact F.len _ _ _ h
  have hb' := hb s us I.kIn (by simpa using hl)
  rw [List.append_nil] at hb'
  refine wpAny_call (codeAny_mono (F.run X.A X.stack s H ⟨us, []⟩ us vs Q o.room o.gu I.env0 hb' r h) fun q s' hq => ?_)
  cases q with
  | error e => exact False.elim hq
  | ok fl =>
    cases fl with
    | ret u => exact I.after hq
    | next => exact False.elim hq
    | brk => exact False.elim hq
    | cont => exact False.elim hq

/-! ### the syntax fits -/
def notSlice : Expr → Bool
  | .Slice _ _ _ _ => false
  | _ => true
def notStar : Expr → Bool
  | .Starred _ _ => false
  | _ => true
theorem plainIx_of {b : Expr} (h : notSlice b = true) : PlainIx b := by
  cases b <;> first | exact fun _ _ => rfl | cases h
theorem star_of {e : Expr} {es : List Expr} {env : Env} (h : notStar e = true) : starEach (e :: es) env = (false, eval e env) :: starEach es env := by
  cases e <;> first | rfl | cases h
def stars : List Expr → Bool
  | [] => true
  | e :: es => notStar e && stars es
theorem backTo_any {pos : Pos} {env : Env} : ∀ {es : List Expr}, stars es = true → (backTo pos (starEach es env)).any (·.1) = false
  | [], _ => rfl
  | e :: es, h => by
    have h' : notStar e = true ∧ stars es = true := by simpa [stars] using h
    rw [star_of h'.1]
    have := backTo_any (pos := pos) (env := env) h'.2
    simp only [backTo, List.map_cons, List.any_cons] at this ⊢
    rw [this] <;> rfl
/-- o.f is no super().f -/
def notSuper : Expr → Bool
  | .Call _ _ _ _ => false
  | _ => true
theorem base_of {o : Expr} {f : Str} {env : Env} (h : notSuper o = true) : attributeBase o f env (eval o env) = eval o env := by
  cases o <;> first | rfl | cases h
def notSet : Expr → Bool
  | .Set _ _ _ => false
  | _ => true
theorem folded_of {e : Expr} {env : Env} (h : notSet e = true) : ∀ x, foldedSetIterable e env x = pure x := by
  cases e <;> first | exact fun _ => rfl | cases h
theorem mark_of {op : CmpOp} {e : Expr} (h : notSet e = true) : behindInMarks op e = false := by
  cases e <;> first | rfl | cases h

def opB : O2 → Operator → Bool
  | .add, .Add => true
  | .sub, .Sub => true
  | .mul, .Mult => true
  | .fdiv, .FloorDiv => true
  | .mod, .Mod => true
  | .pow, .Pow => true
  | _, _ => false
def opC : O2 → CmpOp → Bool
  | .eq, .Eq => true
  | .ne, .NotEq => true
  | .lt, .Lt => true
  | .le, .LtE => true
  | .gt, .Gt => true
  | .ge, .GtE => true
  | .inn, .In => true
  | .nin, .NotIn => true
  | _, _ => false
theorem opB_ok {o : O2} {op : Operator} (h : opB o op = true) : OpR X (binaryOp op) (rO2 X.K X.mg o) := by
  cases o with
  | add => cases op <;> first | exact absurd h (by decide) | exact o2_add
  | sub => cases op <;> first | exact absurd h (by decide) | exact o2_sub
  | mul => cases op <;> first | exact absurd h (by decide) | exact o2_mul
  | fdiv => cases op <;> first | exact absurd h (by decide) | exact o2_fdiv
  | mod => cases op <;> first | exact absurd h (by decide) | exact o2_mod
  | pow => cases op <;> first | exact absurd h (by decide) | exact o2_pow
  | _ => cases op <;> exact absurd h (by decide)
theorem opC_ok (hu : X.A.units + 150 < cLine) {o : O2} {op : CmpOp} (h : opC o op = true) : OpR X (compareOp op) (rO2 X.K X.mg o) := by
  cases o with
  | eq => cases op <;> first | exact absurd h (by decide) | exact o2_eq (by omega)
  | ne => cases op <;> first | exact absurd h (by decide) | exact o2_ne (by omega)
  | lt => cases op <;> first | exact absurd h (by decide) | exact o2_lt
  | le => cases op <;> first | exact absurd h (by decide) | exact o2_le
  | gt => cases op <;> first | exact absurd h (by decide) | exact o2_gt
  | ge => cases op <;> first | exact absurd h (by decide) | exact o2_ge
  | inn => cases op <;> first | exact absurd h (by decide) | exact o2_in (by omega)
  | nin => cases op <;> first | exact absurd h (by decide) | exact o2_nin (by omega)
  | _ => cases op <;> exact absurd h (by decide)

def visB (sc : Scope) (x : Str) : Bool := sc.names.lookup x == some .local || sc.names.lookup x == some .cell || sc.names.lookup x == some .free
theorem visB_ok {sc : Scope} {x : Str} (h : visB sc x = true) : Vis sc x := by
  unfold visB at h
  rw [Bool.or_eq_true, Bool.or_eq_true] at h
  rcases h with (h | h) | h
  · exact .inl (by simpa using h)
  · exact .inr (.inl (by simpa using h))
  · exact .inr (.inr (by simpa using h))
def glB (sc : Scope) (x : Str) : Bool := sc.names.lookup x == some .globalImplicit && x != "__debug__" && x != "__name__"
theorem glB_ok {sc : Scope} {x : Str} (he : X.env.scope = sc) (h : glB sc x = true) : Gl X x ∧ (x == ("__debug__" : Str)) = false ∧ x ≠ "__name__" := by
  unfold glB at h
  rw [Bool.and_eq_true, Bool.and_eq_true] at h
  obtain ⟨⟨h1, h2⟩, h3⟩ := h
  refine ⟨?_, by simpa using h2, by simpa using h3⟩
  show X.env.scope.names.lookup x = _
  rw [he]
  simpa using h1
def biN : Bi → Str
  | .len => "len"
  | .min2 => "min"
  | .max2 => "max"
  | .minL => "min"
  | .maxL => "max"
  | .sum => "sum"
  | .all => "all"
  | .any => "any"
  | .sorted => "sorted"
  | .list => "list"
  | .tuple => "tuple"
  | .int => "int"
  | .str => "str"
  | .repr => "repr"
  | .abs => "abs"
def biVal : Bi → Value
  | .list => .type "list"
  | .tuple => .type "tuple"
  | .int => .type "int"
  | .str => .type "str"
  | .len => .builtin "len"
  | .min2 => .builtin "min"
  | .max2 => .builtin "max"
  | .minL => .builtin "min"
  | .maxL => .builtin "max"
  | .sum => .builtin "sum"
  | .all => .builtin "all"
  | .any => .builtin "any"
  | .sorted => .builtin "sorted"
  | .repr => .builtin "repr"
  | .abs => .builtin "abs"
theorem bi_boot (f : Bi) : bootBuiltins (biN f) = some (biVal f) := by
  cases f <;> decide +kernel
theorem bi_name (f : Bi) : biN f ∈ bltNames := by
  cases f <;> decide +kernel
theorem bi_ok (o : Okx G k X) (f : Bi) : CallR X (biVal f) (rBi X.K X.mg f) := by
  have hu := o.un
  cases f with
  | len => exact bi_len
  | min2 => exact bi_min2 o.calm
  | max2 => exact bi_max2 o.calm
  | minL => exact bi_minL o.calm
  | maxL => exact bi_maxL o.calm
  | sum => exact bi_sum o.calm
  | all => exact bi_all o.calm
  | any => exact bi_any o.calm
  | sorted => exact bi_sorted
  | list => exact bi_list
  | tuple => exact bi_tuple
  | int => exact bi_int
  | str => exact bi_str
  | repr => exact bi_repr o.gu (by omega)
  | abs => exact bi_abs
/-- a call of a built-in by its name, the arguments plain -/
theorem pe_bi (o : Okx G k X) (f : Bi) {p pos : Pos} {e : Expr} {es : List Expr} {ta : TA} (hg : Gl X (biN f)) (ha : PA X (e :: es) ta) (hs : stars (e :: es) = true) : PE X (.Call (.Name (biN f) p) (e :: es) [] pos) (tCB (rBi X.K X.mg f) ta) := by
  have h' : notStar e = true ∧ stars es = true := by simpa [stars] using hs
  have hm := o.blt _ (bi_name f)
  have hv := bi_boot f
  have hc := bi_ok o f
  have he := star_of (es := es) (env := X.env) h'.1
  have hpl := backTo_any (pos := pos) (env := X.env) h'.2
  cases f <;> first
    | exact pe_callB hc hg hm hv ha (by decide) (by decide) he hpl
    | exact pe_callTy hc hg hm hv ha (by decide) (by decide) he hpl
end
end MP

/-! MP6: targets, what is walked. -/
namespace MP
open PySem PySem.Spec PyProof.Rows L2 RZ

/-! ### targets -/
/-- only these names change -/
def Ch (is : List Nat) (σ σ' : L2.St) : Prop := σ.length = σ'.length ∧ ∀ i, i ∉ is → σ'[i]? = σ[i]?
theorem Ch.refl (is : List Nat) (σ : L2.St) : Ch is σ σ := ⟨rfl, fun _ _ => rfl⟩
theorem Ch.trans {is js : List Nat} {a b c : L2.St} (p : Ch is a b) (q : Ch js b c) : Ch (is ++ js) a c := ⟨p.1.trans q.1, fun i h => by
  rw [List.mem_append, not_or] at h
  rw [q.2 i h.2, p.2 i h.1]⟩
theorem Ch.set (i : Nat) (v : Option V) (σ : L2.St) : Ch [i] σ (σ.set i v) := ⟨by simp, fun j h => by
  have : i ≠ j := fun e => h (by simp [e])
  rw [List.getElem?_set_ne this]⟩
theorem Ch.wipe {is own : List Nat} (hs : ∀ i ∈ is, i ∈ own) {σ σ' : L2.St} (h : Ch is σ σ') : wipe σ' own = wipe σ own := by
  have key : ∀ (τ : L2.St) (i : Nat), i < τ.length → (L2.wipe τ own)[i]? = if i ∈ own then some none else τ[i]? := by
    intro τ i hi
    induction own with
    | nil => simp [L2.wipe]
    | cons v vs ih =>
      unfold L2.wipe
      by_cases hv : v = i
      · subst hv
        rw [List.getElem?_set_self (by rw [wipe_length]; exact hi), if_pos (by simp)]
      · rw [List.getElem?_set_ne hv]
        have ih' : ∀ own : List Nat, (L2.wipe τ own)[i]? = if i ∈ own then some none else τ[i]? := by
          intro own
          induction own with
          | nil => simp [L2.wipe]
          | cons w ws ih2 =>
            unfold L2.wipe
            by_cases hw : w = i
            · subst hw
              rw [List.getElem?_set_self (by rw [wipe_length]; exact hi), if_pos (by simp)]
            · rw [List.getElem?_set_ne hw, ih2]
              simp [Ne.symm hw]
        rw [ih' vs]
        simp [Ne.symm hv]
  refine List.ext_getElem? fun i => ?_
  by_cases hi : i < σ.length
  · rw [key σ i hi, key σ' i (by rw [← h.1]; exact hi)]
    split
    · rfl
    · rename_i hn
      exact h.2 i fun q => hn (hs i q)
  · rw [List.getElem?_eq_none (by rw [wipe_length, ← h.1]; omega), List.getElem?_eq_none (by rw [wipe_length]; omega)]

def tgIx : Tg → List Nat
  | .nil => []
  | .cons t r => tgIx t ++ tgIx r
  | .name i => [i]
  | .tup t => tgIx t
def tgLen : Tg → Nat
  | .cons _ r => tgLen r + 1
  | _ => 0
def locB (sc : Scope) (blk : Bool) (x : Str) : Bool := sc.names.lookup x == some .local || (!blk && sc.names.lookup x == some .cell)
mutual
def chT (N : List Str) (sc : Scope) (blk : Bool) : Tg → Expr → Bool
  | .name i, .Name x _ => N[i]? == some x && locB sc blk x
  | .tup ts, .Tuple es _ _ => chTs N sc blk ts es && stars es
  | _, _ => false
def chTs (N : List Str) (sc : Scope) (blk : Bool) : Tg → List Expr → Bool
  | .nil, [] => true
  | .cons t ts, e :: es => chT N sc blk t e && chTs N sc blk ts es
  | _, _ => false
end

section
variable (K : PySem.W.Frag) (mg : Str → Option Value)
def gR (tg : Tg) : TG := fun v σ H Q => ∃ g r s x r', StR K mg g r s σ H ∧ RepV K g v x ∧ bindT tg x r = some r' ∧ ∀ σ', Sl K g σ' r' → Ch (tgIx tg) σ σ' → Q σ' H
def gRs (tg : Tg) : TGs := fun vs σ H Q => ∃ g r s xs r', StR K mg g r s σ H ∧ RepVs K g vs xs ∧ bindT.bindTs tg xs r = some r' ∧ ∀ σ', Sl K g σ' r' → Ch (tgIx tg) σ σ' → Q σ' H
end
theorem sl_set {K : PySem.W.Frag} {g : Gh} {σ : L2.St} {r : Nv} {v : V} {x : Vl} (h : Sl K g σ r) (q : RepV K g v x) (i : Nat) : Sl K g (σ.set i (some v)) (r.set i (some x)) := by
  refine ⟨by simp [h.1], fun j y e => ?_⟩
  by_cases hj : i = j
  · subst hj
    by_cases hl : i < r.length
    · rw [List.getElem?_set_self hl] at e
      cases e
      exact ⟨v, by rw [List.getElem?_set_self (by rw [h.1]; exact hl)], q⟩
    · rw [List.getElem?_eq_none (by simp; omega)] at e
      cases e
  · rw [List.getElem?_set_ne hj] at e ⊢
    exact h.2 j y e
theorem bindTs_len : ∀ {ts : Tg} {vs : List Vl} {r r' : Nv}, bindT.bindTs ts vs r = some r' → vs.length = tgLen ts
  | .nil, [], _, _, _ => rfl
  | .nil, _ :: _, _, _, e => by simp [bindT.bindTs] at e
  | .cons t ts, [], _, _, e => by simp [bindT.bindTs] at e
  | .cons t ts, v :: vs, r, r', e => by
    simp only [bindT.bindTs] at e
    obtain ⟨r1, h1, h2⟩ := Option.bind_eq_some_iff.mp e
    simp [tgLen, bindTs_len h2]
  | .name _, [], _, _, e => by simp [bindT.bindTs] at e
  | .name _, _ :: _, _, _, e => by simp [bindT.bindTs] at e
  | .tup _, [], _, _, e => by simp [bindT.bindTs] at e
  | .tup _, _ :: _, _, _, e => by simp [bindT.bindTs] at e
theorem assignEach_of {env : Env} {t : Expr} {es : List Expr} (h : notStar t = true) : assignEach (t :: es) env = (false, assign t env) :: assignEach es env := by
  cases t <;> first | rfl | cases h
theorem assignEach_len {env : Env} : ∀ {es : List Expr}, stars es = true → (assignEach es env).length = es.length ∧ (assignEach es env).findIdx? (·.1) = none
  | [], _ => ⟨rfl, rfl⟩
  | e :: es, h => by
    have h' : notStar e = true ∧ stars es = true := by simpa [stars] using h
    obtain ⟨h1, h2⟩ := assignEach_len (env := env) h'.2
    rw [assignEach_of h'.1]
    refine ⟨by simp [h1], ?_⟩
    rw [List.findIdx?_cons, h2]
    rfl
section
variable {G : Cn} {k : Nat} {X : Cx}
theorem chTs_len {N : List Str} {sc : Scope} {blk : Bool} : ∀ {ts : Tg} {es : List Expr}, chTs N sc blk ts es = true → es.length = tgLen ts
  | .nil, [], _ => rfl
  | .nil, _ :: _, h => by simp [chTs] at h
  | .cons t ts, [], h => by simp [chTs] at h
  | .cons t ts, e :: es, h => by
    simp only [chTs, Bool.and_eq_true] at h
    simp [tgLen, chTs_len h.2]
  | .name _, [], h => by simp [chTs] at h
  | .name _, _ :: _, h => by simp [chTs] at h
  | .tup _, [], h => by simp [chTs] at h
  | .tup _, _ :: _, h => by simp [chTs] at h
mutual
theorem sndT (hc : X.calm = true) (hnd : X.N.Nodup) {N : List Str} {sc : Scope} {blk : Bool} (hN : X.N = N) (hsc : X.env.scope = sc) (hf : blk = false → ∀ x, X.fn x = true) : ∀ (tg : Tg) (e : Expr), chT N sc blk tg e = true → PG X e (gR X.K X.mg tg)
  | .name i, e, h => by
    cases e with
    | Name x pos =>
      simp only [chT, Bool.and_eq_true] at h
      obtain ⟨h1, h2⟩ := h
      have h1 : X.N[i]? = some x := by rw [hN]; simpa using h1
      have hl : Loc X.env.scope x ∧ (X.fn x = true ∨ X.env.scope.names.lookup x = some .local) := by
        unfold locB at h2
        rw [Bool.or_eq_true, Bool.and_eq_true] at h2
        rw [hsc]
        rcases h2 with h2 | ⟨h2, h3⟩
        · have h2 : sc.names.lookup x = some .local := by simpa using h2
          exact ⟨.inl h2, .inr h2⟩
        · have h3 : sc.names.lookup x = some .cell := by simpa using h3
          exact ⟨.inr h3, .inl (hf (by simpa using h2) x)⟩
      refine ⟨fun pins s σ H v u Q I rv q => (pg_name hnd h1 hl.1 hl.2).run pins s σ H v u Q I rv ?_⟩
      obtain ⟨g, r, st, y, r', R, ry, e, k⟩ := q
      cases e
      exact k _ (sl_set R.env ry i) (Ch.set _ _ _)
    | _ => simp [chT] at h
  | .tup ts, e, h => by
    cases e with
    | Tuple es kk pos =>
      simp only [chT, Bool.and_eq_true] at h
      obtain ⟨h1, h2⟩ := h
      obtain ⟨h3, h4⟩ := assignEach_len (env := X.env) h2
      have ih := sndTs hc hnd hN hsc hf ts es h1 h2
      refine ⟨fun pins s σ H v u Q I rv q => ?_⟩
      obtain ⟨g, r, st, y, r', R, ry, e, k⟩ := q
      have gol : ∀ {a : Addr} {zs : List V} {vs : List Vl}, v = .ref a → SqL X.K H a zs → RepVs X.K g zs vs → bindT.bindTs ts vs r = some r' → gUnl X.K es.length (gRs X.K X.mg ts) v σ H Q := by
        intro a zs vs ea hq hr hb
        refine ⟨a, zs, ea, hq, ?_, g, r, st, vs, r', R, hr, hb, k⟩
        rw [hr.length, bindTs_len hb, chTs_len h1]
      have go : ∀ {a : Addr} {zs : List V} {vs : List Vl}, v = .ref a → SqT X.K H a zs → RepVs X.K g zs vs → bindT.bindTs ts vs r = some r' → gTup X.K es.length (gRs X.K X.mg ts) v σ H Q := by
        intro a zs vs ea hq hr hb
        refine ⟨a, zs, ea, hq, ?_, g, r, st, vs, r', R, hr, hb, k⟩
        rw [hr.length, bindTs_len hb, chTs_len h1]
      cases y with
      | d y =>
        cases y with
        | tuple ys =>
          cases ry with
          | d hd =>
            cases hd with
            | tup a1 a2 => exact (pg_tup hc ih h3 h4).run pins s σ H _ u Q I rv (go rfl (sqT_same R.st.fro a1) (RepVs.ofData a2) e)
        | none => simp [bindT] at e
        | bool b => simp [bindT] at e
        | int i => simp [bindT] at e
        | str z => simp [bindT] at e
        | list z =>
          cases ry with
          | d hd =>
            cases hd with
            | lst a1 a2 => exact (pg_unl hc ih h3 h4).run pins s σ H _ u Q I rv (gol rfl (R.st.fro.seq a1) (RepVs.ofData a2) e)
        | dict z => simp [bindT] at e
      | loc n => simp [bindT] at e
      | mix vs =>
        cases ry with
        | mix a1 a2 => exact (pg_tup hc ih h3 h4).run pins s σ H _ u Q I rv (go rfl (sqT_same R.st.fro a1) a2 e)
    | _ => simp [chT] at h
  | .nil, e, h => by simp [chT] at h
  | .cons _ _, e, h => by simp [chT] at h
theorem sndTs (hc : X.calm = true) (hnd : X.N.Nodup) {N : List Str} {sc : Scope} {blk : Bool} (hN : X.N = N) (hsc : X.env.scope = sc) (hf : blk = false → ∀ x, X.fn x = true) : ∀ (tg : Tg) (es : List Expr), chTs N sc blk tg es = true → stars es = true → PGs X es (gRs X.K X.mg tg)
  | .nil, es, h, hs => by
    cases es with
    | nil =>
      refine ⟨fun pins s σ H vs us Q I rv q => (pgs_nil (X := X)).run pins s σ H vs us Q I rv ?_⟩
      obtain ⟨g, r, st, ys, r', R, ry, e, k⟩ := q
      cases ry with
      | nil =>
        cases e
        exact ⟨rfl, k _ R.env (Ch.refl _ _)⟩
      | cons a b => simp [bindT.bindTs] at e
    | cons e es => simp [chTs] at h
  | .cons t ts, es, h, hs => by
    cases es with
    | nil => simp [chTs] at h
    | cons e es =>
      simp only [chTs, Bool.and_eq_true] at h
      have hs' : notStar e = true ∧ stars es = true := by simpa [stars] using hs
      have ih1 := sndT hc hnd hN hsc hf t e h.1
      have ih2 := sndTs hc hnd hN hsc hf ts es h.2 hs'.2
      refine ⟨fun pins s σ H vs us Q I rv q => (pgs_cons ih1 ih2 (by rw [assignEach_of hs'.1, List.map_cons])).run pins s σ H vs us Q I rv ?_⟩
      obtain ⟨g, r, st, ys, r', R, ry, e, k⟩ := q
      cases ry with
      | nil => simp [bindT.bindTs] at e
      | cons a b =>
        simp only [bindT.bindTs] at e
        obtain ⟨r1, e1, e2⟩ := Option.bind_eq_some_iff.mp e
        exact ⟨_, _, rfl, g, r, st, _, r1, R, a, e1, fun σ1 l1 c1 => ⟨g, r1, st, _, r', ⟨R.st, l1⟩, b, e2, fun σ2 l2 c2 => k σ2 l2 (c1.trans c2)⟩⟩
  | .name _, es, h, hs => by cases es <;> simp [chTs] at h
  | .tup _, es, h, hs => by cases es <;> simp [chTs] at h
end
end

/-! ### what is walked -/
/-- J goes through the items of w, from g0 on -/
structure WkR (K : PySem.W.Frag) (mg : Str → Option Value) (g0 : Gh) (J : L2.It) (w : Wk) : Prop where
  go : ∀ g s H i x, Same g0.F g.F → g0.ph <+: g.ph → RlS K mg g s H → okG w.2 s → w.1[i]? = some x → J.go i H ∧ ∀ y H', J.yld i H y H' → ∃ g', RlS K mg g' s H' ∧ Stp g H g' H' ∧ RepV K g' y x
  stop : ∀ g s H i, Same g0.F g.F → g0.ph <+: g.ph → RlS K mg g s H → okG w.2 s → w.1.length ≤ i → J.stop i H
def TIw (K : PySem.W.Frag) (mg : Str → Option Value) (ev : Nv → Sto → Option (Wk × Sto)) : TI := fun σ H R => ∃ g r s w s', StR K mg g r s σ H ∧ ev r s = some (w, s') ∧ ∀ g' J H', RlS K mg g' s' H' → Stp g H g' H' → WkR K mg g' J w → R J H'
section
variable {K : PySem.W.Frag} {mg : Str → Option Value} {g0 : Gh}
theorem map_get {α β : Type} {f : α → β} {xs : List α} {i : Nat} {y : β} (h : (xs.map f)[i]? = some y) : ∃ x, xs[i]? = some x ∧ f x = y := by
  rw [List.getElem?_map] at h
  exact Option.map_eq_some_iff.mp h
theorem dpAll_get2 {F : Hp} {vs : List V} {xs : List PyData} {i : Nat} {x : PyData} {v : V} (r : DpAll K F vs xs) (h : xs[i]? = some x) (h2 : vs[i]? = some v) : Dp K F v x := by
  obtain ⟨w, h3, h4⟩ := dpAll_get r h
  rw [h2] at h3
  cases h3
  exact h4
theorem wk_list {a : Addr} {ys : List V} {xs : List PyData} (h1 : SqL K g0.F a ys) (h2 : DpAll K g0.F ys xs) : WkR K mg g0 (Itl K a) (xs.map .d, []) := by
  refine ⟨fun g s H i x e p R _ hx => ?_, fun g s H i e p R _ hi => ⟨ys, (e.trans R.fro).seq h1, by rw [dpAll_length h2]; simpa using hi⟩⟩
  obtain ⟨d, hd, rfl⟩ := map_get hx
  obtain ⟨v, hv, hr⟩ := dpAll_get h2 hd
  refine ⟨⟨ys, v, (e.trans R.fro).seq h1, hv⟩, fun y H' hy => ?_⟩
  obtain ⟨rfl, hy⟩ := hy
  have := hy ys ((e.trans R.fro).seq h1)
  rw [hv] at this
  cases this
  exact ⟨g, R, Stp.refl _ _, .d (dp_same e hr)⟩
theorem wk_tup {a : Addr} {ys : List V} {xs : List Vl} (h1 : SqT K g0.F a ys) (h2 : RepVs K g0 ys xs) : WkR K mg g0 (Itt K a) (xs, []) := by
  refine ⟨fun g s H i x e p R _ hx => ?_, fun g s H i e p R _ hi => ⟨ys, sqT_same (e.trans R.fro) h1, by rw [h2.length]; simpa using hi⟩⟩
  obtain ⟨v, hv, hr⟩ := h2.get hx
  refine ⟨⟨ys, v, sqT_same (e.trans R.fro) h1, hv⟩, fun y H' hy => ?_⟩
  obtain ⟨rfl, hy⟩ := hy
  have := hy ys (sqT_same (e.trans R.fro) h1)
  rw [hv] at this
  cases this
  exact ⟨g, R, Stp.refl _ _, repV_le e p hr⟩
theorem wk_loc {a : Addr} {n : Nat} {vs : List Vl} (h1 : g0.ph[n]? = some a) : WkR K mg g0 (Itl K a) (vs, [(n, vs)]) := by
  have get : ∀ (g : Gh) (s : Sto) (H : Hp), g0.ph <+: g.ph → RlS K mg g s H → okG [(n, vs)] s → ∃ ys, H a = some (.lst ys) ∧ RepVs K g ys vs := fun g s H p R ok => by
    obtain ⟨_, ys, h3, h4⟩ := R.obj n a _ (pre_get p h1) ok.1
    exact ⟨ys, h3, h4⟩
  refine ⟨fun g s H i x e p R ok hx => ?_, fun g s H i e p R ok hi => ?_⟩
  · obtain ⟨ys, h3, h4⟩ := get g s H p R ok
    obtain ⟨v, hv, hr⟩ := h4.get hx
    refine ⟨⟨ys, v, SqL.of h3, hv⟩, fun y H' hy => ?_⟩
    obtain ⟨rfl, hy⟩ := hy
    have := hy ys (SqL.of h3)
    rw [hv] at this
    cases this
    exact ⟨g, R, Stp.refl _ _, hr⟩
  · obtain ⟨ys, h3, h4⟩ := get g s H p R ok
    exact ⟨ys, SqL.of h3, by rw [h4.length]; exact hi⟩
theorem wk_str {z : Str} : WkR K mg g0 (Its z) (z.cps.toList.map fun c => .d (.str ⟨#[c]⟩), []) := by
  refine ⟨fun g s H i x e p R _ hx => ?_, fun g s H i e p R _ hi => by simpa [Its] using hi⟩
  obtain ⟨c, hc, rfl⟩ := map_get hx
  have hc' : z.cps[i]? = some c := by simpa using hc
  refine ⟨(Array.getElem?_eq_some_iff.mp hc').1, fun y H' hy => ?_⟩
  obtain ⟨rfl, c2, h2, rfl⟩ := hy
  rw [hc'] at h2
  cases h2
  exact ⟨g, R, Stp.refl _ _, rep_str _⟩
theorem wk_range {lo : Int} {n : Nat} : WkR K mg g0 (Itr lo n) (iota lo n, []) := by
  have hlen : (iota lo n).length = n := by simp [iota]
  refine ⟨fun g s H i x e p R _ hx => ?_, fun g s H i e p R _ hi => by rw [show (iota lo n, ([] : List (Nat × List Vl))).1 = iota lo n from rfl, hlen] at hi; exact hi⟩
  have hi : i < n := by
    have := (List.getElem?_eq_some_iff.mp hx).1
    rw [show (iota lo n, ([] : List (Nat × List Vl))).1 = iota lo n from rfl, hlen] at this
    exact this
  have hx' : x = .d (.int (lo + (i : Int))) := by
    have h2 : (iota lo n)[i]? = some x := hx
    unfold iota at h2
    rw [List.getElem?_map, List.getElem?_range hi] at h2
    exact (Option.some.inj h2).symm
  subst hx'
  refine ⟨hi, fun y H' hy => ?_⟩
  obtain ⟨rfl, rfl⟩ := hy
  exact ⟨g, R, Stp.refl _ _, rep_int _⟩
/-- a new tuple at each turn -/
theorem tup_turn {g : Gh} {s : Sto} {H H' : Hp} {y : V} {T : Addr} {v w : V} {d e : PyData} (R : RlS K mg g s H) (hy : y = .ref T) (hT : H T = none) (hH : H' = upd H T (.tup [v, w])) (h1 : Dp K g.F v d) (h2 : Dp K g.F w e) :
    ∃ g', RlS K mg g' s H' ∧ Stp g H g' H' ∧ RepV K g' y (.d (.tuple [d, e])) := by
  subst hy hH
  obtain ⟨R', S'⟩ := R.froze (o := .tup [v, w]) hT
  exact ⟨_, R', S', .d (.tup (SqT.of upd_same) (dpAll_same (same_new (R.fro.free hT)) (.cons h1 (.cons h2 .nil))))⟩
theorem wk_zipL {a b : Addr} {vs ws : List V} {xs ys : List PyData} (h1 : SqL K g0.F a vs) (h2 : DpAll K g0.F vs xs) (h3 : SqL K g0.F b ws) (h4 : DpAll K g0.F ws ys) : WkR K mg g0 (Itz K a b) ((xs.zip ys).map fun p => .d (.tuple [p.1, p.2]), []) := by
  refine ⟨fun g s H i x e p R _ hx => ?_, fun g s H i e p R _ hi => ⟨vs, ws, (e.trans R.fro).seq h1, (e.trans R.fro).seq h3, ?_⟩⟩
  · obtain ⟨⟨d1, d2⟩, hd, rfl⟩ := map_get hx
    obtain ⟨q1, q2⟩ := List.getElem?_zip_eq_some.mp hd
    obtain ⟨v1, hv1, r1⟩ := dpAll_get h2 q1
    obtain ⟨v2, hv2, r2⟩ := dpAll_get h4 q2
    refine ⟨⟨vs, ws, v1, v2, (e.trans R.fro).seq h1, (e.trans R.fro).seq h3, hv1, hv2⟩, fun y H' hy => ?_⟩
    obtain ⟨T, u1, u2, ey, eT, eH, f1, f2⟩ := hy
    have e1 := f1 vs ((e.trans R.fro).seq h1)
    have e2 := f2 ws ((e.trans R.fro).seq h3)
    rw [hv1] at e1
    rw [hv2] at e2
    cases e1
    cases e2
    exact tup_turn R ey eT eH (dp_same e r1) (dp_same e r2)
  · have : (xs.zip ys).length ≤ i := by simpa using hi
    rw [List.length_zip] at this
    rw [dpAll_length h2, dpAll_length h4]
    omega
theorem wk_zipT {a b : Addr} {vs ws : List V} {xs ys : List PyData} (h1 : SqT K g0.F a vs) (h2 : DpAll K g0.F vs xs) (h3 : SqT K g0.F b ws) (h4 : DpAll K g0.F ws ys) : WkR K mg g0 (ItzT K a b) ((xs.zip ys).map fun p => .d (.tuple [p.1, p.2]), []) := by
  refine ⟨fun g s H i x e p R _ hx => ?_, fun g s H i e p R _ hi => ⟨vs, ws, sqT_same (e.trans R.fro) h1, sqT_same (e.trans R.fro) h3, ?_⟩⟩
  · obtain ⟨⟨d1, d2⟩, hd, rfl⟩ := map_get hx
    obtain ⟨q1, q2⟩ := List.getElem?_zip_eq_some.mp hd
    obtain ⟨v1, hv1, r1⟩ := dpAll_get h2 q1
    obtain ⟨v2, hv2, r2⟩ := dpAll_get h4 q2
    refine ⟨⟨vs, ws, v1, v2, sqT_same (e.trans R.fro) h1, sqT_same (e.trans R.fro) h3, hv1, hv2⟩, fun y H' hy => ?_⟩
    obtain ⟨T, u1, u2, ey, eT, eH, f1, f2⟩ := hy
    have e1 := f1 vs (sqT_same (e.trans R.fro) h1)
    have e2 := f2 ws (sqT_same (e.trans R.fro) h3)
    rw [hv1] at e1
    rw [hv2] at e2
    cases e1
    cases e2
    exact tup_turn R ey eT eH (dp_same e r1) (dp_same e r2)
  · have : (xs.zip ys).length ≤ i := by simpa using hi
    rw [List.length_zip] at this
    rw [dpAll_length h2, dpAll_length h4]
    omega
theorem wk_zipLoc {a b : Addr} {n : Nat} {vs : List Vl} {ws : List V} {xs ys : List PyData} (h1 : g0.ph[n]? = some a) (h2 : allD vs = some xs) (h3 : SqL K g0.F b ws) (h4 : DpAll K g0.F ws ys) : WkR K mg g0 (Itz K a b) ((xs.zip ys).map fun p => .d (.tuple [p.1, p.2]), [(n, vs)]) := by
  have get : ∀ (g : Gh) (s : Sto) (H : Hp), g0.ph <+: g.ph → RlS K mg g s H → okG [(n, vs)] s → ∃ zs, H a = some (.lst zs) ∧ DpAll K g.F zs xs := fun g s H p R ok => by
    obtain ⟨_, zs, h5, h6⟩ := R.obj n a _ (pre_get p h1) ok.1
    exact ⟨zs, h5, h6.data h2⟩
  refine ⟨fun g s H i x e p R ok hx => ?_, fun g s H i e p R ok hi => ?_⟩
  · obtain ⟨zs, hz, r⟩ := get g s H p R ok
    obtain ⟨⟨d1, d2⟩, hd, rfl⟩ := map_get hx
    obtain ⟨q1, q2⟩ := List.getElem?_zip_eq_some.mp hd
    obtain ⟨v1, hv1, r1⟩ := dpAll_get r q1
    obtain ⟨v2, hv2, r2⟩ := dpAll_get h4 q2
    refine ⟨⟨zs, ws, v1, v2, SqL.of hz, (e.trans R.fro).seq h3, hv1, hv2⟩, fun y H' hy => ?_⟩
    obtain ⟨T, u1, u2, ey, eT, eH, f1, f2⟩ := hy
    have e1 := f1 zs (SqL.of hz)
    have e2 := f2 ws ((e.trans R.fro).seq h3)
    rw [hv1] at e1
    rw [hv2] at e2
    cases e1
    cases e2
    exact tup_turn R ey eT eH r1 (dp_same e r2)
  · obtain ⟨zs, hz, r⟩ := get g s H p R ok
    refine ⟨zs, ws, SqL.of hz, (e.trans R.fro).seq h3, ?_⟩
    have : (xs.zip ys).length ≤ i := by simpa using hi
    rw [List.length_zip] at this
    rw [dpAll_length r, dpAll_length h4]
    omega
/-- a new tuple of what may be places at each turn -/
theorem tup_turnV {g : Gh} {s : Sto} {H H' : Hp} {y : V} {T : Addr} {v w : V} {d e : Vl} (R : RlS K mg g s H) (hy : y = .ref T) (hT : H T = none) (hH : H' = upd H T (.tup [v, w])) (h1 : RepV K g v d) (h2 : RepV K g w e) :
    ∃ g', RlS K mg g' s H' ∧ Stp g H g' H' ∧ RepV K g' y (tupV [d, e]) := by
  subst hy hH
  obtain ⟨R', S'⟩ := R.froze (o := .tup [v, w]) hT
  refine ⟨_, R', S', ?_⟩
  have hq := SqT.of (K := K) (H := upd g.F T (.tup [v, w])) (a := T) (xs := [v, w]) upd_same
  have r : RepVs K g [v, w] [d, e] := .cons h1 (.cons h2 .nil)
  unfold tupV
  cases h5 : allD [d, e] with
  | some ds => exact .d (.tup hq (dpAll_same (same_new (R.fro.free hT)) (r.data h5)))
  | none => exact .mix hq (repVs_le (g := g) (g' := ⟨upd g.F T (.tup [v, w]), g.ph⟩) (same_new (R.fro.free hT)) (List.prefix_refl _) r)
theorem wk_zipMix {a b : Addr} {zs ws : List V} {vs : List Vl} {ys : List PyData} (h1 : SqT K g0.F a zs) (h2 : RepVs K g0 zs vs) (h3 : SqT K g0.F b ws) (h4 : DpAll K g0.F ws ys) : WkR K mg g0 (ItzT K a b) ((vs.zip ys).map fun p => tupV [p.1, .d p.2], []) := by
  refine ⟨fun g s H i x e p R _ hx => ?_, fun g s H i e p R _ hi => ⟨zs, ws, sqT_same (e.trans R.fro) h1, sqT_same (e.trans R.fro) h3, ?_⟩⟩
  · obtain ⟨⟨d1, d2⟩, hd, rfl⟩ := map_get hx
    obtain ⟨q1, q2⟩ := List.getElem?_zip_eq_some.mp hd
    obtain ⟨v1, hv1, r1⟩ := h2.get q1
    obtain ⟨v2, hv2, r2⟩ := dpAll_get h4 q2
    refine ⟨⟨zs, ws, v1, v2, sqT_same (e.trans R.fro) h1, sqT_same (e.trans R.fro) h3, hv1, hv2⟩, fun y H' hy => ?_⟩
    obtain ⟨T, u1, u2, ey, eT, eH, f1, f2⟩ := hy
    have e1 := f1 zs (sqT_same (e.trans R.fro) h1)
    have e2 := f2 ws (sqT_same (e.trans R.fro) h3)
    rw [hv1] at e1
    rw [hv2] at e2
    cases e1
    cases e2
    exact tup_turnV R ey eT eH (repV_le e p r1) (.d (dp_same e r2))
  · have : (vs.zip ys).length ≤ i := by simpa using hi
    rw [List.length_zip] at this
    rw [h2.length, dpAll_length h4]
    omega
theorem wk_enum {a : Addr} {vs : List V} {xs : List PyData} (h1 : SqL K g0.F a vs) (h2 : DpAll K g0.F vs xs) : WkR K mg g0 (Ite K a) (xs.zipIdx.map fun p => .d (.tuple [.int p.2, p.1]), []) := by
  refine ⟨fun g s H i x e p R _ hx => ?_, fun g s H i e p R _ hi => ⟨vs, (e.trans R.fro).seq h1, ?_⟩⟩
  · obtain ⟨⟨d1, n⟩, hd, rfl⟩ := map_get hx
    rw [List.getElem?_zipIdx] at hd
    obtain ⟨d2, q1, q2⟩ := Option.map_eq_some_iff.mp hd
    cases q2
    obtain ⟨v1, hv1, r1⟩ := dpAll_get h2 q1
    refine ⟨⟨vs, v1, (e.trans R.fro).seq h1, hv1⟩, fun y H' hy => ?_⟩
    obtain ⟨T, u1, ey, eT, eH, f1⟩ := hy
    have e1 := f1 vs ((e.trans R.fro).seq h1)
    rw [hv1] at e1
    cases e1
    have : ((0 + i : Nat) : Int) = (i : Int) := by omega
    rw [this]
    exact tup_turn R ey eT eH (.int _) (dp_same e r1)
  · have : xs.zipIdx.length ≤ i := by simpa using hi
    rw [List.length_zipIdx] at this
    rw [dpAll_length h2]
    exact this
theorem wk_rev {a : Addr} {ys : List V} {xs : List PyData} (h1 : SqL K g0.F a ys) (h2 : DpAll K g0.F ys xs) : WkR K mg g0 (Itv K a ys.length) (xs.reverse.map .d, []) := by
  have hl := dpAll_length h2
  refine ⟨fun g s H i x e p R _ hx => ?_, fun g s H i e p R _ hi => ?_⟩
  rotate_left
  · have hz : xs.length ≤ i := by simpa using hi
    show ys.length ≤ i
    omega
  obtain ⟨d, hd, rfl⟩ := map_get hx
  have hi : i < xs.length := by simpa using (List.getElem?_eq_some_iff.mp hd).1
  rw [List.getElem?_reverse hi] at hd
  obtain ⟨v, hv, hr⟩ := dpAll_get h2 hd
  rw [← hl] at hv
  refine ⟨⟨by omega, ys, v, (e.trans R.fro).seq h1, hv⟩, fun y H' hy => ?_⟩
  obtain ⟨rfl, hy⟩ := hy
  have := hy ys ((e.trans R.fro).seq h1)
  rw [hv] at this
  cases this
  exact ⟨g, R, Stp.refl _ _, .d (dp_same e hr)⟩
end
end MP

/-! MP7: each expression by its parts. -/
namespace MP
open PySem PySem.Spec PyProof.Rows L2 RZ

section
variable {G : Cn} {k : Nat} {X : Cx}
abbrev PEi (G : Cn) (X : Cx) (e : Expr) (p : Ex) : Prop := PE X e (TIe X.K X.mg (evE G p))
abbrev PTi (G : Cn) (X : Cx) (e : Expr) (p : Ex) : Prop := PT X e (TIt X.K X.mg (evE G p))
abbrev PAi (G : Cn) (X : Cx) (es : List Expr) (p : Exs) : Prop := PA X es (TIa X.K X.mg (evEs G p))

theorem WantT.go {K : PySem.W.Frag} {mg : Str → Option Value} {g : Gh} {H : Hp} {s : Sto} {b : Bool} {Q : Bool → Hp → Prop} (k : WantT K mg g H s b Q) : Want K mg g H s (.d (.bool b)) fun x H' => ∃ c, x = .bl c ∧ Q c H' :=
  fun g' w H' R p r => ⟨b, rel_bl r, k g' H' R p⟩
theorem tit_e {K : PySem.W.Frag} {mg : Str → Option Value} {ev : Nv → Sto → Option (Vl × Sto)} {σ : L2.St} {H : Hp} {Q : Bool → Hp → Prop} (h : TIt K mg ev σ H Q) : TIe K mg ev σ H fun x H' => ∃ c, x = .bl c ∧ Q c H' := by
  obtain ⟨g, r, s, b, s', R, e, k⟩ := h
  exact ⟨g, r, s, _, s', R, e, k.go⟩
/-- a test whose value is a truth -/
theorem pt_of {e : Expr} {p : Ex} (h : PEi G X e p) (he : ∀ whole, isTrue e X.env whole = (do let v ← whole; standAt e.pos; holding [v] (truthy v))) : PTi G X e p :=
  PT.imp (pt_val h he) fun σ H Q q => tit_e q

theorem c_var {N : List Str} {i : Nat} {x : Str} {pos : Pos} (hN : X.N[i]? = some x) (hv : Vis X.env.scope x) (hd : (x == ("__debug__" : Str)) = false) (hcd : (x == ("__classdict__" : Str)) = false) : PEi G X (.Name x pos) (.var i) := by
  refine PE.imp (pe_var (i := i) hN hv hd hcd) fun σ H Q h => ?_
  obtain ⟨g, r, s, v, s', R, e, k⟩ := h
  rw [evE] at e
  split at e
  · rename_i v' e1
    cases e
    obtain ⟨w, h1, h2⟩ := R.env.2 i _ e1
    exact ⟨w, h1, k.go R.st h2⟩
  · cases e
/-- a constant -/
theorem c_cst {e : Expr} {x : PyData} {v : V} (h : PE X e (tC v)) (hd : ∀ F, Dp X.K F v x) : PEi G X e (.cst x) := by
  refine PE.imp h fun σ H Q h => ?_
  obtain ⟨g, r, s, v, s', R, e, k⟩ := h
  rw [evE] at e
  cases e
  exact k.go R.st (.d (hd _))
theorem c_glb (o : Okx G k X) {x : Str} {pos : Pos} {d : PyData} (hd : G.con x = some d) (hg : Gl X x) (hdb : (x == ("__debug__" : Str)) = false) : PEi G X (.Name x pos) (.glb x) := by
  obtain ⟨u, v, h1, h2, h3⟩ := o.con x d hd
  refine PE.imp (pe_glob hg h1 h2 hdb) fun σ H Q h => ?_
  obtain ⟨g, r, s, v, s', R, e, k⟩ := h
  rw [evE, hd] at e
  simp only [] at e
  cases hq : isDct d with
  | true =>
    rw [hq] at e
    cases e
  | false =>
    rw [hq] at e
    cases e
    exact k.go R.st (.d (dp_same (fun a o z => by cases z) (h3.dp hq)))
/-- two operands -/
theorem two {K : PySem.W.Frag} {mg : Str → Option Value} {eva evb : Nv → Sto → Option (Vl × Sto)} {f : Vl → Vl → Sto → Option (Vl × Sto)} {σ : L2.St} {H : Hp} {Q : VK} {R : V → V → Hp → Prop}
    (h : TIe K mg (fun r s => bnd (eva r s) fun x s1 => bnd (evb r s1) fun y s2 => f x y s2) σ H Q)
    (hf : ∀ g s x y v s' w u H, RlS K mg g s H → RepV K g w x → RepV K g u y → f x y s = some (v, s') → Want K mg g H s' v Q → R w u H) :
    TIe K mg eva σ H fun w H1 => TIe K mg evb σ H1 fun u H2 => R w u H2 := by
  obtain ⟨g, r, s, v, s', Rr, e, k⟩ := h
  obtain ⟨x, s1, e1, e⟩ := bnd_eq e
  obtain ⟨y, s2, e2, e⟩ := bnd_eq e
  exact ⟨g, r, s, x, s1, Rr, e1, fun g1 w H1 R1 p1 r1 => ⟨g1, r, s1, y, s2, ⟨R1, p1.sl Rr.env⟩, e2, fun g2 u H2 R2 p2 r2 => hf g2 s2 x y v s' w u H2 R2 (p2.rep r1) r2 e (k.later (p1.trans p2))⟩⟩
theorem read_o2 {p : O2} {a b : Ex} {σ : L2.St} {H : Hp} {Q : VK} (h : TIe X.K X.mg (evE G (.o2 p a b)) σ H Q) : tOp (rO2 X.K X.mg p) (TIe X.K X.mg (evE G a)) (TIe X.K X.mg (evE G b)) σ H Q := by
  refine two (f := fun x y s2 => match o2v p s2 x y with
      | some v => some (v, s2)
      | none => none) (R := fun w u H => rO2 X.K X.mg p w u H Q) (by
    obtain ⟨g, r, s, v, s', R, e, k⟩ := h
    rw [evE] at e
    exact ⟨g, r, s, v, s', R, e, k⟩) fun g s x y v s' w u H R r1 r2 e k => ?_
  split at e
  · cases e
    exact ⟨g, s, x, y, _, R, r1, r2, by assumption, k⟩
  · cases e
theorem c_bin {p : O2} {op : Operator} {a b : Ex} {e1 e2 : Expr} {pos : Pos} (ho : opB p op = true) (ha : PEi G X e1 a) (hb : PEi G X e2 b) : PEi G X (.BinOp e1 op e2 pos) (.o2 p a b) :=
  PE.imp (pe_op (opB_ok ho) ha hb) fun _ _ _ h => read_o2 h
theorem c_ix {a b : Ex} {e1 e2 : Expr} {pos : Pos} (hs : notSlice e2 = true) (ha : PEi G X e1 a) (hb : PEi G X e2 b) : PEi G X (.Subscript e1 e2 pos) (.o2 .idx a b) :=
  PE.imp (pe_ix ix_any ha hb (plainIx_of hs)) fun _ _ _ h => read_o2 h
theorem c_cmp (o : Okx G k X) {p : O2} {op : CmpOp} {a b : Ex} {e1 e2 : Expr} {pos : Pos} (ho : opC p op = true) (hs : notSet e2 = true) (ha : PEi G X e1 a) (hb : PEi G X e2 b) :
    PEi G X (.Compare e1 [op] [e2] pos) (.o2 p a b) ∧ PTi G X (.Compare e1 [op] [e2] pos) (.o2 p a b) :=
  ⟨PE.imp (pe_cmpR (opC_ok o.un ho) ha hb (mark_of hs)) fun _ _ _ h => read_o2 h, PT.imp (pt_cmpR (opC_ok o.un ho) ha hb (mark_of hs)) fun _ _ _ h => read_o2 (tit_e h)⟩
theorem read_inD (o : Okx G k X) {a : Ex} {x : Str} {kvs : List (PyData × PyData)} (hd : G.con x = some (.dict kvs)) {d : Addr} {es : Array DictEntry} {n : Nat} (hk : ∀ z, ∃ r, PySem.W.nsIn X.K d z = some r ∧ match dget kvs z with
    | none => r = none
    | some x => ∃ u0 v0, r = some u0 ∧ RelV v0 u0 ∧ Dp X.K (fun _ => none) v0 x) {σ : L2.St} {H : Hp} {Q : VK} (h : TIe X.K X.mg (evE G (.inD a x)) σ H Q) :
    TIe X.K X.mg (evE G a) σ H fun y H1 => ∃ (z : Str) (r : Option Value), y = .str z ∧ V.ref d = .ref d ∧ PySem.W.nsIn X.K d z = some r ∧ Q (.bl r.isSome) H1 := by
  obtain ⟨g, r, s, v, s', R, e, k⟩ := h
  rw [evE] at e
  obtain ⟨y, s1, e1, e⟩ := bnd_eq e
  refine ⟨g, r, s, y, s1, R, e1, fun g1 w H1 R1 p1 r1 => ?_⟩
  rw [hd] at e
  split at e
  · rename_i z kvs2 e2
    cases e2
    cases e
    cases r1 with
    | d h =>
      cases h
      obtain ⟨r, h1, h2⟩ := hk z
      refine ⟨z, r, rfl, rfl, h1, ?_⟩
      have e3 : r.isSome = (dget kvs z).isSome := by
        cases h3 : dget kvs z with
        | none =>
          rw [h3] at h2
          rw [h2]
          rfl
        | some x =>
          rw [h3] at h2
          obtain ⟨u0, v0, h2, _⟩ := h2
          rw [h2]
          rfl
      rw [e3]
      exact (k.later p1).go R1 (rep_bl _)
  · cases e
theorem c_inD (o : Okx G k X) {a : Ex} {x : Str} {kvs : List (PyData × PyData)} {e1 : Expr} {p pos : Pos} (hd : G.con x = some (.dict kvs)) (hg : Gl X x) (hdb : (x == ("__debug__" : Str)) = false) (ha : PEi G X e1 a) :
    PEi G X (.Compare e1 [.In] [.Name x p] pos) (.inD a x) ∧ PTi G X (.Compare e1 [.In] [.Name x p] pos) (.inD a x) := by
  obtain ⟨u, v, h1, h2, d, es, n, rfl, h3, h4⟩ := o.con x _ hd
  have pg := pe_glob (X := X) (pos := p) hg h1 h2 hdb
  exact ⟨PE.imp (pe_cmpR (op_in_kd h3) ha pg (mark_of rfl)) fun _ _ _ h => read_inD (es := es) (n := n) o hd h4 h, PT.imp (pt_cmpR (op_in_kd h3) ha pg (mark_of rfl)) fun _ _ _ h => read_inD (es := es) (n := n) o hd h4 (tit_e h)⟩
theorem c_ixD (o : Okx G k X) {a : Ex} {x : Str} {kvs : List (PyData × PyData)} {e2 : Expr} {p pos : Pos} (hs : notSlice e2 = true) (hd : G.con x = some (.dict kvs)) (hg : Gl X x) (hdb : (x == ("__debug__" : Str)) = false) (ha : PEi G X e2 a) :
    PEi G X (.Subscript (.Name x p) e2 pos) (.ixD x a) := by
  obtain ⟨u, v, h1, h2, d, es, n, rfl, h3, h4⟩ := o.con x _ hd
  refine PE.imp (pe_ix ix_kdict (pe_glob (X := X) (pos := p) hg h1 h2 hdb) ha (plainIx_of hs)) fun σ H Q h => ?_
  obtain ⟨g, r, s, v, s', R, e, k⟩ := h
  rw [evE] at e
  obtain ⟨y, s1, e1, e⟩ := bnd_eq e
  refine ⟨g, r, s, y, s1, R, e1, fun g1 w H1 R1 p1 r1 => ?_⟩
  rw [hd] at e
  split at e
  · rename_i z kvs2 e2
    cases e2
    split at e
    · rename_i x0 e3
      cases e
      cases r1 with
      | d h =>
        cases h
        obtain ⟨r, q1, q2⟩ := h4 z
        rw [e3] at q2
        obtain ⟨u0, v0, rfl, q3, q4⟩ := q2
        exact ⟨d, z, v0, rfl, rfl, ⟨es, n, u0, h3.at_, h3.lit, q1, q3⟩, (k.later p1).go R1 (.d (dp_same (fun a o z => by cases z) q4))⟩
    · cases e
  · cases e
theorem read_chain {p q : O2} {a b c : Ex} {σ : L2.St} {H : Hp} {Q : VK} (h : TIe X.K X.mg (evE G (.chain p q a b c)) σ H Q) :
    tChain (rO2 X.K X.mg p) (rO2 X.K X.mg q) (TIe X.K X.mg (evE G a)) (TIe X.K X.mg (evE G b)) (TIe X.K X.mg (evE G c)) σ H Q := by
  obtain ⟨g, r, s, v, s', R, e, k⟩ := h
  rw [evE] at e
  obtain ⟨x, s1, e1, e⟩ := bnd_eq e
  obtain ⟨y, s2, e2, e⟩ := bnd_eq e
  refine ⟨g, r, s, x, s1, R, e1, fun g1 w H1 R1 p1 r1 => ⟨g1, r, s1, y, s2, ⟨R1, p1.sl R.env⟩, e2, fun g2 u H2 R2 p2 r2 => ?_⟩⟩
  split at e
  · rename_i eo
    obtain ⟨z, s3, e3, e⟩ := bnd_eq e
    refine ⟨g2, s2, x, y, _, R2, p2.rep r1, r2, eo, fun g3 w3 H3 R3 p3 r3 => ⟨true, rel_bl r3, iteT ?_⟩⟩
    refine ⟨g3, r, s2, z, s3, ⟨R3, (p1.trans (p2.trans p3)).sl R.env⟩, e3, fun g4 w4 H4 R4 p4 r4 => ?_⟩
    split at e
    · rename_i eo2
      cases e
      exact ⟨g4, _, y, z, _, R4, (p3.trans p4).rep r2, r4, eo2, k.later (p1.trans (p2.trans (p3.trans p4)))⟩
    · cases e
  · rename_i eo
    cases e
    refine ⟨g2, _, x, y, _, R2, p2.rep r1, r2, eo, fun g3 w3 H3 R3 p3 r3 => ⟨false, rel_bl r3, iteF ?_⟩⟩
    exact (k.later (p1.trans (p2.trans p3))).go R3 (rep_bl _)
  · cases e
theorem c_chain (o : Okx G k X) {p q : O2} {op op' : CmpOp} {a b c : Ex} {e1 e2 e3 : Expr} {pos : Pos} (ho : opC p op = true) (ho' : opC q op' = true) (hs : notSet e3 = true) (ha : PEi G X e1 a) (hb : PEi G X e2 b) (hc : PEi G X e3 c) :
    PEi G X (.Compare e1 [op, op'] [e2, e3] pos) (.chain p q a b c) ∧ PTi G X (.Compare e1 [op, op'] [e2, e3] pos) (.chain p q a b c) := by
  have hm : lastMarks [op, op'] [e2, e3] = false := mark_of hs
  exact ⟨PE.imp (pe_chain (opC_ok o.un ho) (opC_ok o.un ho') ha hb hc hm) fun _ _ _ h => read_chain h, PT.imp (pt_chain (opC_ok o.un ho) (opC_ok o.un ho') ha hb hc hm) fun _ _ _ h => read_chain (tit_e h)⟩
theorem c_neg {a : Ex} {e : Expr} {pos : Pos} (ha : PEi G X e a) : PEi G X (.UnaryOp .USub e pos) (.o1 .neg a) := by
  refine PE.imp (pe_un o1_neg ha) fun σ H Q h => ?_
  obtain ⟨g, r, s, v, s', R, e, k⟩ := h
  rw [evE] at e
  obtain ⟨x, s1, e1, e⟩ := bnd_eq e
  refine ⟨g, r, s, x, s1, R, e1, fun g1 w H1 R1 p1 r1 => ?_⟩
  split at e
  · rename_i eo
    cases e
    exact ⟨g1, _, x, _, R1, r1, eo, k.later p1⟩
  · cases e
/-- is None -/
def isNonV : Vl → Bool
  | .d .none => true
  | _ => false
theorem non_iff {K : PySem.W.Frag} {g : Gh} {w : V} {x : Vl} (r : RepV K g w x) : (decide (w = .non)) = isNonV x := by
  cases r with
  | d h => cases h <;> rfl
  | loc h => rfl
  | mix h a => rfl
theorem isN_v {x : Vl} : o1v .isN x = some (.d (.bool (isNonV x))) := by
  unfold o1v
  cases x with
  | d y => cases y <;> rfl
  | loc n => rfl
  | mix vs => rfl
theorem noN_v {x : Vl} : o1v .noN x = some (.d (.bool (!isNonV x))) := by
  unfold o1v
  cases x with
  | d y => cases y <;> rfl
  | loc n => rfl
  | mix vs => rfl
theorem read_isN {a : Ex} {σ : L2.St} {H : Hp} {Q : VK} (h : TIe X.K X.mg (evE G (.o1 .isN a)) σ H Q) : tIsN (TIe X.K X.mg (evE G a)) σ H Q := by
  obtain ⟨g, r, s, v, s', R, e, k⟩ := h
  rw [evE] at e
  obtain ⟨x, s1, e1, e⟩ := bnd_eq e
  refine ⟨g, r, s, x, s1, R, e1, fun g1 w H1 R1 p1 r1 => ?_⟩
  rw [isN_v] at e
  cases e
  rw [non_iff r1]
  exact (k.later p1).go R1 (rep_bl _)
theorem read_noN {a : Ex} {σ : L2.St} {H : Hp} {Q : VK} (h : TIe X.K X.mg (evE G (.o1 .noN a)) σ H Q) : tNotN (TIe X.K X.mg (evE G a)) σ H Q := by
  obtain ⟨g, r, s, v, s', R, e, k⟩ := h
  rw [evE] at e
  obtain ⟨x, s1, e1, e⟩ := bnd_eq e
  refine ⟨g, r, s, x, s1, R, e1, fun g1 w H1 R1 p1 r1 => ?_⟩
  rw [noN_v] at e
  cases e
  rw [non_iff r1]
  exact (k.later p1).go R1 (rep_bl _)
theorem c_isN {a : Ex} {e : Expr} {j : Nat} {p pos : Pos} (ha : PEi G X e a) : PEi G X (.Compare e [.Is] [.Constant .none j p] pos) (.o1 .isN a) ∧ PTi G X (.Compare e [.Is] [.Constant .none j p] pos) (.o1 .isN a) :=
  ⟨PE.imp (pe_cmp (pc_isN ha) rfl) fun _ _ _ h => read_isN h, PT.imp (pt_cmp (pc_isN ha) rfl) fun _ _ _ h => read_isN (tit_e h)⟩
theorem c_noN {a : Ex} {e : Expr} {j : Nat} {p pos : Pos} (ha : PEi G X e a) : PEi G X (.Compare e [.IsNot] [.Constant .none j p] pos) (.o1 .noN a) ∧ PTi G X (.Compare e [.IsNot] [.Constant .none j p] pos) (.o1 .noN a) :=
  ⟨PE.imp (pe_cmp (pc_notN ha) rfl) fun _ _ _ h => read_noN h, PT.imp (pt_cmp (pc_notN ha) rfl) fun _ _ _ h => read_noN (tit_e h)⟩
theorem c_not {a : Ex} {e : Expr} {pos : Pos} (ha : PEi G X e a) (ht : PTi G X e a) : PEi G X (.UnaryOp .Not e pos) (.not_ a) ∧ PTi G X (.UnaryOp .Not e pos) (.not_ a) := by
  have core : ∀ {σ : L2.St} {H : Hp} {Q : VK}, TIe X.K X.mg (evE G (.not_ a)) σ H Q → TIe X.K X.mg (evE G a) σ H fun x H1 => ∃ c, x = .bl c ∧ Q (.bl (!c)) H1 := by
    intro σ H Q h
    obtain ⟨g, r, s, v, s', R, e, k⟩ := h
    rw [evE] at e
    obtain ⟨x, s1, e1, e⟩ := bnd_eq e
    refine ⟨g, r, s, x, s1, R, e1, fun g1 w H1 R1 p1 r1 => ?_⟩
    split at e
    · cases e
      exact ⟨_, rel_bl r1, (k.later p1).go R1 (rep_bl _)⟩
    · cases e
  refine ⟨PE.imp (pe_not ha) fun _ _ _ h => core h, PT.imp (pt_not ht) fun σ H Q h => ?_⟩
  obtain ⟨g, r, s, b, s', R, e, k⟩ := h
  rw [evE] at e
  obtain ⟨x, s1, e1, e⟩ := bnd_eq e
  split at e
  · rename_i c
    cases e
    exact ⟨g, r, s, c, _, R, e1, k⟩
  · cases e
theorem c_ite {c a b : Ex} {ec ea eb : Expr} {pos : Pos} (hc : PTi G X ec c) (ha : PEi G X ea a) (hb : PEi G X eb b) : PEi G X (.IfExp ec ea eb pos) (.ite c a b) := by
  refine PE.imp (pe_ifExp hc ha hb) fun σ H Q h => ?_
  obtain ⟨g, r, s, v, s', R, e, k⟩ := h
  rw [evE] at e
  obtain ⟨x, s1, e1, e⟩ := bnd_eq e
  split at e
  · refine ⟨g, r, s, true, s1, R, e1, fun g1 H1 R1 p1 => iteT ?_⟩
    exact ⟨g1, r, s1, v, s', ⟨R1, p1.sl R.env⟩, e, k.later p1⟩
  · refine ⟨g, r, s, false, s1, R, e1, fun g1 H1 R1 p1 => iteF ?_⟩
    exact ⟨g1, r, s1, v, s', ⟨R1, p1.sl R.env⟩, e, k.later p1⟩
  · cases e
/-! arguments -/
theorem c_nil : PAi G X [] .nil := PA.imp pa_nil fun σ H Q h => by
  obtain ⟨g, r, s, v, s', R, e, k⟩ := h
  rw [evEs] at e
  cases e
  exact k g [] H R.st (Stp.refl _ _) .nil
theorem c_cons {a : Ex} {as : Exs} {e : Expr} {es : List Expr} (hs : notStar e = true) (ha : PEi G X e a) (has : PAi G X es as) : PAi G X (e :: es) (.cons a as) := PA.imp (pa_cons ha has (star_of hs)) fun σ H Q h => by
  obtain ⟨g, r, s, v, s', R, e, k⟩ := h
  rw [evEs] at e
  obtain ⟨x, s1, e1, e⟩ := bnd_eq e
  obtain ⟨xs, s2, e2, e⟩ := bnd_eq e
  cases e
  exact ⟨g, r, s, x, s1, R, e1, fun g1 w H1 R1 p1 r1 => ⟨g1, r, s1, xs, _, ⟨R1, p1.sl R.env⟩, e2, fun g2 ws H2 R2 p2 r2 => k g2 (w :: ws) H2 R2 (p1.trans p2) (.cons (p2.rep r1) r2)⟩⟩
theorem c_bi (o : Okx G k X) (f : Bi) {as : Exs} {e : Expr} {es : List Expr} {p pos : Pos} (hg : Gl X (biN f)) (hs : stars (e :: es) = true) (ha : PAi G X (e :: es) as) : PEi G X (.Call (.Name (biN f) p) (e :: es) [] pos) (.bi f as) := by
  refine PE.imp (pe_bi o f hg ha hs) fun σ H Q h => ?_
  obtain ⟨g, r, s, v, s', R, e, k⟩ := h
  rw [evE] at e
  obtain ⟨xs, s1, e1, e⟩ := bnd_eq e
  refine ⟨g, r, s, xs, s1, R, e1, fun g1 ws H1 R1 p1 r1 => ?_⟩
  split at e
  · rename_i eo
    cases e
    exact ⟨g1, _, xs, _, R1, r1, eo, k.later p1⟩
  · cases e
theorem read_call {f : Str} {as : Exs} {σ : L2.St} {H : Hp} {Q : VK} (h : TIe X.K X.mg (evE G (.call f as)) σ H Q) : tCB (spI X.K X.mg (G.run f)) (TIa X.K X.mg (evEs G as)) σ H Q := by
  obtain ⟨g, r, s, v, s', R, e, k⟩ := h
  rw [evE] at e
  obtain ⟨xs, s1, e1, e⟩ := bnd_eq e
  exact ⟨g, r, s, xs, s1, R, e1, fun g1 ws H1 R1 p1 r1 => ⟨g1, s1, xs, v, s', R1, r1, e, k.later p1⟩⟩
/-- a call of a def, by place -/
theorem c_call (o : Okx G k X) {f x : Str} {as : Exs} {e : Expr} {es : List Expr} {p pos : Pos} (hko : ko f = false) (hx : bs f = x) (hg : Gl X x) (hdb : (x == ("__debug__" : Str)) = false) (hs : stars (e :: es) = true) (ha : PAi G X (e :: es) as) : PEi G X (.Call (.Name x p) (e :: es) [] pos) (.call f as) := by
  subst hx
  refine ⟨fun pins s σ H Q I h => ?_⟩
  have h2 := h
  obtain ⟨g, r, st, v, s', R, e1, kk⟩ := h2
  rw [evE] at e1
  obtain ⟨xs, s1, e2, e1⟩ := bnd_eq e1
  obtain ⟨fa, fd, ps, hm, hk, F, hb⟩ := o.run f xs s1 v s' hko e1
  have hc := o.call F hb
  have q := read_call h
  have hs' : notStar e = true ∧ stars es = true := by simpa [stars] using hs
  refine wpAny_Call_Name_kw (ld_glob I hg hm ?_ hdb)
  refine PySem.W.callWith_K (h₀ := X.base) I.ok.mod.kin hk (thn (ha.run pos pins s σ H _ I q) fun us s1 ⟨vs, H1, I1, r, q⟩ => ⟨I1.kIn, ?_⟩) (star_of hs'.1) (backTo_any hs'.2)
  exact hc pins s1 σ H1 vs us Q I1 r q
theorem c_call0 (o : Okx G k X) {f x : Str} {p pos : Pos} (hko : ko f = false) (hx : bs f = x) (hg : Gl X x) (hdb : (x == ("__debug__" : Str)) = false) : PEi G X (.Call (.Name x p) [] [] pos) (.call f .nil) := by
  subst hx
  refine ⟨fun pins s σ H Q I h => ?_⟩
  obtain ⟨g, r, st, v, s', R, e, kk⟩ := h
  rw [evE, evEs] at e
  have e : G.run f [] st = some (v, s') := e
  obtain ⟨fa, fd, ps, hm, hk, F, hb⟩ := o.run f [] st v s' hko e
  have hc := o.call F hb
  refine wpAny_Call_Name_kw (ld_glob I hg hm ?_ hdb)
  exact PySem.W.callWith_K0 I.kIn hk (hc pins s σ H [] [] Q I .nil ⟨g, st, [], v, s', R.st, .nil, e, kk⟩)
/-- a tuple, a list -/
theorem c_tup {as : Exs} {es : List Expr} {x1 : Nat} {pos : Pos} (hl : es.length ≤ 1000) (ha : PAi G X es as) (hlen : ∀ r s vs s', evEs G as r s = some (vs, s') → vs.length = es.length) : PEi G X (.Tuple es x1 pos) (.tup as) := by
  refine PE.imp (pe_tup ha) fun σ H Q h => ?_
  obtain ⟨g, r, s, v, s', R, e, k⟩ := h
  rw [evE] at e
  obtain ⟨xs, s1, e1, e⟩ := bnd_eq e
  cases e
  refine ⟨g, r, s, xs, _, R, e1, fun g1 ws H1 R1 p1 r1 => ⟨?_, fun p hp => ?_⟩⟩
  · rw [r1.length, hlen _ _ _ _ e1, sizeLine_eq]
    omega
  · obtain ⟨R', S'⟩ := R1.froze (o := .tup ws) hp
    refine k _ _ _ R' (p1.trans S') ?_
    have hq := SqT.of (K := X.K) (H := upd g1.F p (.tup ws)) (a := p) (xs := ws) upd_same
    unfold tupV
    cases h5 : allD xs with
    | some ds => exact .d (.tup hq (dpAll_same (same_new (R1.fro.free hp)) (r1.data h5)))
    | none => exact .mix hq (repVs_le (g := g1) (g' := ⟨upd g1.F p (.tup ws), g1.ph⟩) (same_new (R1.fro.free hp)) (List.prefix_refl _) r1)
/-- a new list at p -/
theorem c_lst {z : Bool} {as : Exs} {es : List Expr} {pos : Pos} (hl : es.length ≤ 1000) (ha : PAi G X es as) (hlen : ∀ r s vs s', evEs G as r s = some (vs, s') → vs.length = es.length) : PEi G X (.List es pos) (.lst z as) := by
  refine PE.imp (pe_lst ha) fun σ H Q h => ?_
  obtain ⟨g, r, s, v, s', R, e, k⟩ := h
  rw [evE] at e
  obtain ⟨xs, s1, e1, e⟩ := bnd_eq e
  refine ⟨g, r, s, xs, s1, R, e1, fun g1 ws H1 R1 p1 r1 => ⟨?_, fun p hp => newL_ok e R1 hp r1 (k.later p1)⟩⟩
  rw [r1.length, hlen _ _ _ _ e1, sizeLine_eq]
  omega
theorem frzVs_ok {K : PySem.W.Frag} {mg : Str → Option Value} : ∀ {vs : List Vl} {ws : List V} {g : Gh} {s s' : Sto} {H : Hp} {ds : List PyData}, RlS K mg g s H → RepVs K g ws vs → frzVs s vs = some (ds, s') → ∃ g2, RlS K mg g2 s' H ∧ Stp g H g2 H ∧ DpAll K g2.F ws ds
  | [], _, g, s, s', H, ds, R, r, e => by
    cases r
    unfold frzVs at e
    cases e
    exact ⟨g, R, Stp.refl _ _, .nil⟩
  | .d x :: vs, _, g, s, s', H, ds, R, r, e => by
    cases r with
    | cons r1 r2 =>
      unfold frzVs at e
      split at e
      · rename_i ys s2 e2
        cases e
        obtain ⟨g2, R2, p2, q⟩ := frzVs_ok R r2 e2
        cases r1 with
        | d h => exact ⟨g2, R2, p2, .cons (dp_same p2.fr h) q⟩
      · cases e
  | .loc n :: vs, _, g, s, s', H, ds, R, r, e => by
    cases r with
    | cons r1 r2 =>
      unfold frzVs at e
      split at e
      · rename_i us e3
        split at e
        · rename_i xs e4
          split at e
          · rename_i ys s2 e2
            cases e
            cases r1 with
            | loc h =>
              obtain ⟨g1, R1, p1, q1⟩ := R.die h e3 e4
              obtain ⟨g2, R2, p2, q2⟩ := frzVs_ok R1 (p1.reps r2) e2
              cases q1 with
              | d q1 => exact ⟨g2, R2, p1.trans p2, .cons (dp_same p2.fr q1) q2⟩
          · cases e
        · cases e
      · cases e
  | .mix us :: vs, _, g, s, s', H, ds, R, r, e => by
    unfold frzVs at e
    cases e
/-- given up -/
theorem c_frz {a : Ex} {e : Expr} (ha : PEi G X e a) : PEi G X e (.frz a) := by
  refine PE.imp ha fun σ H Q h => ?_
  obtain ⟨g, r, s, v, s', R, e, k⟩ := h
  rw [evE] at e
  obtain ⟨x, s1, e1, e⟩ := bnd_eq e
  refine ⟨g, r, s, x, s1, R, e1, fun g1 w H1 R1 p1 r1 => ?_⟩
  split at e
  · rename_i y s2 eo
    cases e
    unfold frzV at eo
    cases x with
    | d d =>
      cases eo
      exact (k.later p1).go R1 r1
    | loc n =>
      simp only at eo
      split at eo
      · rename_i vs e3
        split at eo
        · rename_i ds e4
          cases eo
          cases r1 with
          | loc h =>
            obtain ⟨g2, R2, p2, r2⟩ := R1.die h e3 e4
            exact k g2 _ _ R2 (p1.trans p2) r2
        · cases eo
      · cases eo
    | mix vs =>
      simp only at eo
      split at eo
      · rename_i ds s3 e3
        cases eo
        cases r1 with
        | mix hq ra =>
          obtain ⟨g2, R2, p2, r2⟩ := frzVs_ok R1 ra e3
          exact k g2 _ _ R2 (p1.trans p2) (.d (.tup (sqT_same p2.fr hq) r2))
      · cases eo
  · cases e
/-- list + list, a place of the store -/
theorem op_catS {X : Cx} : OpR X (binaryOp .Add) (fun x y H Q => ∃ p1 p2 xs ys, x = .ref p1 ∧ y = .ref p2 ∧ SqL X.K H p1 xs ∧ SqL X.K H p2 ys ∧ xs.length + ys.length ≤ sizeLine ∧ ∀ p, H p = none → Q (.ref p) (upd H p (.lst (xs ++ ys)))) := by
  intro pins s σ H x y v u Q I rx ry h
  obtain ⟨p1, p2, xs, ys, rfl, rfl, h1, h2, hz, q⟩ := h
  cases rx
  cases ry
  exact cat_any I h1 h2 hz q
theorem c_catS {a b : Ex} {l r : Expr} {pos : Pos} (ha : PEi G X l a) (hb : PEi G X r b) : PEi G X (.BinOp l .Add r pos) (.catS a b) := by
  refine PE.imp (pe_op op_catS ha hb) fun σ H Q h => ?_
  obtain ⟨g, r, s, v, s', R, e, k⟩ := h
  rw [evE] at e
  obtain ⟨x, s1, e1, e⟩ := bnd_eq e
  obtain ⟨y, s2, e2, e⟩ := bnd_eq e
  refine ⟨g, r, s, x, s1, R, e1, fun g1 w H1 R1 p1 r1 => ⟨g1, r, s1, y, s2, ⟨R1, p1.sl R.env⟩, e2, fun g2 u H2 R2 p2 r2 => ?_⟩⟩
  split at e
  · rename_i xs ys e3 e4
    split at e
    · rename_i hz
      obtain ⟨q1, zs, rfl, f1, f2⟩ := flat_list e3 R2 (p2.rep r1)
      obtain ⟨q2, us, rfl, f3, f4⟩ := flat_list e4 R2 r2
      refine ⟨q1, q2, zs, us, rfl, rfl, f1, f3, by rw [dpAll_length f2, dpAll_length f4]; exact hz, fun p hp => ?_⟩
      exact newL_ok e R2 hp (RepVs.ofData (dpAll_append f4 f2)) (k.later (p1.trans p2))
    · cases e
  · cases e
/-- slices -/
theorem c_sl {a : Ex} {lo hi : Ox} {e : Expr} {l h : Option Expr} {p2 pos : Pos} {tl th : TO} (ha : PEi G X e a) (hl : PO X l tl) (hh : PO X h th)
    (kl : ∀ σ H R, (∃ g r s v s', StR X.K X.mg g r s σ H ∧ evO G lo r s = some (v, s') ∧ ∃ o, optI v = some o ∧ ∀ g' H', RlS X.K X.mg g' s' H' → Stp g H g' H' → R o H') → tl σ H R)
    (kh : ∀ σ H R, (∃ g r s v s', StR X.K X.mg g r s σ H ∧ evO G hi r s = some (v, s') ∧ ∃ o, optI v = some o ∧ ∀ g' H', RlS X.K X.mg g' s' H' → Stp g H g' H' → R o H') → th σ H R) : PEi G X (.Subscript e (.Slice l h none p2) pos) (.sl a lo hi) := by
  refine PE.imp (pe_slice sl_any ha hl hh) fun σ H Q h => ?_
  obtain ⟨g, r, s, v, s', R, e, k⟩ := h
  rw [evE] at e
  obtain ⟨x, s1, e1, e⟩ := bnd_eq e
  obtain ⟨y, s2, e2, e⟩ := bnd_eq e
  obtain ⟨z, s3, e3, e⟩ := bnd_eq e
  split at e
  · rename_i l' h' o1 o2
    refine ⟨g, r, s, x, s1, R, e1, fun g1 w1 H1 R1 p1 r1 => kl _ _ _ ⟨g1, r, s1, y, s2, ⟨R1, p1.sl R.env⟩, e2, l', o1, fun g2 H2 R2 p2 => kh _ _ _ ⟨g2, r, s2, z, s3, ⟨R2, (p1.trans p2).sl R.env⟩, e3, h', o2, fun g3 H3 R3 p3 => ?_⟩⟩⟩
    exact ⟨g3, s3, x, v, s', R3, (p2.trans p3).rep r1, e, k.later (p1.trans (p2.trans p3))⟩
  · cases e
theorem o_no : ∀ σ H R, (∃ g r s v s', StR X.K X.mg g r s σ H ∧ evO G .no r s = some (v, s') ∧ ∃ o, optI v = some o ∧ ∀ g' H', RlS X.K X.mg g' s' H' → Stp g H g' H' → R o H') → tNoPart σ H R := fun σ H R h => by
  obtain ⟨g, r, s, v, s', Rr, e, o, eo, k⟩ := h
  rw [evO] at e
  cases e
  cases eo
  exact k g H Rr.st (Stp.refl _ _)
theorem o_so {a : Ex} : ∀ σ H R, (∃ g r s v s', StR X.K X.mg g r s σ H ∧ evO G (.so a) r s = some (v, s') ∧ ∃ o, optI v = some o ∧ ∀ g' H', RlS X.K X.mg g' s' H' → Stp g H g' H' → R o H') → tPart (TIe X.K X.mg (evE G a)) σ H R := fun σ H R h => by
  obtain ⟨g, r, s, v, s', Rr, e, o, eo, k⟩ := h
  rw [evO] at e
  obtain ⟨x, s1, e1, e⟩ := bnd_eq e
  cases e
  refine ⟨g, r, s, x, _, Rr, e1, fun g1 w H1 R1 p1 r1 => ?_⟩
  unfold optI at eo
  split at eo
  · cases ‹some x = none›
  · rename_i i ex
    cases ex
    cases eo
    exact ⟨i, rel_int (u := .none) r1, k g1 H1 R1 p1⟩
  · cases eo
/-- [::-1] -/
theorem c_rev {a : Ex} {e : Expr} {kk : Nat} {p1 p2 p3 pos : Pos} (ha : PEi G X e a) : PEi G X (.Subscript e (.Slice none none (some (.UnaryOp .USub (.Constant (.int 1) kk p1) p2)) p3) pos) (.sk .rev a) := by
  refine PE.imp (pe_revL ha) fun σ H Q h => ?_
  obtain ⟨g, r, s, v, s', R, e, k⟩ := h
  rw [evE] at e
  obtain ⟨x, s1, e1, e⟩ := bnd_eq e
  split at e
  · rename_i xs eo
    cases e
    refine ⟨g, r, s, x, _, R, e1, fun g1 w H1 R1 p1 r1 => ?_⟩
    obtain ⟨q, ys, rfl, h1, h2⟩ := flat_list eo R1 r1
    exact ⟨q, ys, rfl, h1, fun p hp => (k.later p1).lst R1 hp (dpAll_reverse h2)⟩
  · cases e
end
end MP

/-! MP7b: slices with step two. -/
namespace MP
open PySem PySem.Spec PyProof.Rows L2 RZ
theorem ev_pick {α : Type} : ∀ xs : List α, (List.range ((xs.length + 1) / 2)).filterMap (fun k => xs[2 * k]?) = evens xs
  | [] => by simp [evens]
  | [x] => by simp [evens, List.range_succ]
  | x :: y :: r => by
    have e : ((x :: y :: r).length + 1) / 2 = (r.length + 1) / 2 + 1 := by simp; omega
    rw [e, List.range_succ_eq_map, List.filterMap_cons]
    have h0 : (x :: y :: r)[2 * 0]? = some x := rfl
    simp only [h0]
    rw [List.filterMap_map]
    have h1 : ((fun k => (x :: y :: r)[2 * k]?) ∘ Nat.succ) = fun k => r[2 * k]? := by
      funext k
      show (x :: y :: r)[2 * (k + 1)]? = _
      have : 2 * (k + 1) = 2 * k + 1 + 1 := by omega
      rw [this]
      rfl
    rw [h1, ev_pick r]
    rfl
theorem pick_two (items : Array Value) : slicePick items none none (some 2) = (evens items.toList).toArray := by
  unfold slicePick
  have hb : sliceBounds none none (some 2) items.size = (0, (items.size : Int), 2) := rfl
  rw [hb, ← ev_pick]
  simp only []
  unfold sliceRange
  rw [if_pos (by decide)]
  have hc : (if (0 : Int) < (items.size : Int) then ((items.size : Int) - 0 + 2 - 1) / 2 else 0).toNat = (items.toList.length + 1) / 2 := by
    split <;> simp <;> omega
  show (((List.range _).map _).filterMap _).toArray = _
  rw [hc, List.filterMap_map]
  congr 2
  funext k
  show items[((0 : Int) + 2 * (k : Int)).toNat]? = items.toList[2 * k]?
  have : ((0 : Int) + 2 * (k : Int)).toNat = 2 * k := by omega
  rw [this]
  simp
theorem pick_one_two (items : Array Value) : slicePick items (some 1) none (some 2) = (evens (items.toList.drop 1)).toArray := by
  unfold slicePick
  have hb : sliceBounds (some 1) none (some 2) items.size = (max 0 (min 1 (items.size : Int)), (items.size : Int), 2) := rfl
  rw [hb, ← ev_pick]
  simp only []
  unfold sliceRange
  rw [if_pos (by decide)]
  by_cases h0 : items.size = 0
  · have e1 : items.toList = [] := by
      apply List.eq_nil_of_length_eq_zero
      simpa using h0
    rw [e1, h0]
    rfl
  · have hm : max 0 (min 1 (items.size : Int)) = 1 := by omega
    rw [hm]
    have hc : (if (1 : Int) < (items.size : Int) then ((items.size : Int) - 1 + 2 - 1) / 2 else 0).toNat = ((items.toList.drop 1).length + 1) / 2 := by
      split <;> simp <;> omega
    show (((List.range _).map _).filterMap _).toArray = _
    rw [hc, List.filterMap_map]
    congr 2
    funext k
    show items[((1 : Int) + 2 * (k : Int)).toNat]? = (items.toList.drop 1)[2 * k]?
    have : ((1 : Int) + 2 * (k : Int)).toNat = 1 + 2 * k := by omega
    rw [this, List.getElem?_drop]
    simp
theorem evens_sub {α : Type} : ∀ xs : List α, (evens xs).length ≤ xs.length
  | [] => Nat.le_refl _
  | [x] => Nat.le_refl _
  | x :: y :: r => by
    have := evens_sub r
    show (evens r).length + 1 ≤ r.length + 2
    omega
theorem vals_evens : ∀ {xs : List V} {us : List Value}, Vals xs us → Vals (evens xs) (evens us)
  | _, _, .nil => .nil
  | _, _, .cons a .nil => .cons a .nil
  | _, _, .cons a (.cons b r) => .cons a (vals_evens r)
theorem vals_drop1 {xs : List V} {us : List Value} (h : Vals xs us) : Vals (xs.drop 1) (us.drop 1) := by
  cases h with
  | nil => exact .nil
  | cons a r => exact r
theorem dp_evens {K : PySem.W.Frag} {F : Hp} : ∀ {xs : List V} {ds : List PyData}, DpAll K F xs ds → DpAll K F (evens xs) (evens ds)
  | _, _, .nil => .nil
  | _, _, .cons a .nil => .cons a .nil
  | _, _, .cons a (.cons b r) => .cons a (dp_evens r)
theorem dp_drop1 {K : PySem.W.Frag} {F : Hp} {xs : List V} {ds : List PyData} (h : DpAll K F xs ds) : DpAll K F (xs.drop 1) (ds.drop 1) := by
  cases h with
  | nil => exact .nil
  | cons a r => exact r
section
variable {G : Cn} {k : Nat} {X : Cx}
/-- a list, cut by a step -/
def tCutL (K : PySem.W.Frag) (f : List V → List V) (te : TE) : TE := fun σ H Q => te σ H fun x H1 => ∃ p zs, x = .ref p ∧ SqL K H1 p zs ∧ ∀ q, H1 q = none → Q (.ref q) (upd H1 q (.lst (f zs)))
theorem pe_cut {e : Expr} {te : TE} {lo : Option Expr} {st : Expr} {p3 pos : Pos} {l : Option Int} {s0 : Int} {f : List V → List V} {fu : List Value → List Value} (he : PE X e te)
    (hlo : ∀ (pins : List (Addr × Obj)) (s : Shared) (σ : L2.St) (H : Hp) , ∃ t, PO X lo t ∧ ∀ R : Option Int → Hp → Prop, R l H → t σ H R) (hst : ∃ t, PO X (some st) t ∧ ∀ σ H (R : Option Int → Hp → Prop), R (some s0) H → t σ H R) (h0 : (some s0 : Option Int) ≠ some 0)
    (hf : ∀ {xs : List V} {us : List Value}, Vals xs us → Vals (f xs) (fu us)) (hfl : ∀ xs : List V, (f xs).length ≤ xs.length) (hp : ∀ items : Array Value, slicePick items l none (some s0) = (fu items.toList).toArray) :
    PE X (.Subscript e (.Slice lo none (some st) p3) pos) (tCutL X.K f te) := by
  refine ⟨fun pins s σ H Q I h => ?_⟩
  refine Subscript_ (thn (he.run pins s σ H _ I h) fun v s1 ⟨x, H1, I1, r1, q1⟩ => ?_)
  obtain ⟨a, zs, rfl, hz1, q⟩ := q1
  cases r1
  obtain ⟨tl, pl0, ql0⟩ := hlo pins s1 σ H1
  obtain ⟨tst, ps0, qs0⟩ := hst
  refine wpAny_Slice (thn (pl0.run pins s1 σ H1 (fun o H2 => o = l ∧ H2 = H1) I1 (ql0 _ ⟨rfl, rfl⟩)) fun vl s2 ⟨l2, H2, I2, pl, el, e2⟩ => ?_)
  subst el e2
  refine thn (po_none.run pins s2 σ H2 (fun o H3 => o = none ∧ H3 = H2) I2 ⟨rfl, rfl⟩) fun vu s3 ⟨u, H3, I3, pu, eu, e3⟩ => ?_
  subst eu e3
  refine thn (ps0.run pins s3 σ H3 (fun o H4 => o = some s0 ∧ H4 = H3) I3 (qs0 _ _ _ ⟨rfl, rfl⟩)) fun vs s4 ⟨o, H4, I4, ps, eo, e4⟩ => ?_
  subst eo e4
  have I5 : Inv X pins σ H4 { s4 with heap := s4.heap.push { cls := .type "slice", data := .fields #[vl, vu, vs] } } := I4.kept (t' := s4.toks) fun b ob q => Heap.get?_push_of_some _ q
  obtain ⟨its, rr, ht, hsz⟩ := I5.list hz1
  have hlen := rr.length
  show wpAny (model X.prog X.w) X.A (subscriptTail e (.Slice lo none (some st) p3) (.ref a) (.ref s4.heap.objs.size)) (EP X pins σ Q) X.xe { s4 with heap := s4.heap.push { cls := .type "slice", data := .fields #[vl, vu, vs] } }
  refine tail_any (ops := [.ref a, .ref s4.heap.objs.size]) ht.isList.typeIs (PySem.slot_list_getitem.lookup) ?_ (by with_unfolding_all rfl)
  refine wpAny_getItem_list_slice ht.isList (Heap.IsSliceOf.new _ vl vu vs) pl pu ps h0 ?_ (by rw [List.size_toArray]; omega)
  rw [hp]
  refine ⟨.ref _, _, I5.laid (t' := s4.toks) (o := .lst (f zs)) (fun b ob q => Heap.get?_push_of_some _ q) (Nat.le_refl _) ?_, rfl, q _ (I5.hok.fresh (Nat.le_refl _))⟩
  exact ⟨Nat.le_trans (hfl zs) hsz, _, 0, by simpa using hf rr, Heap.get?_push_size _ rfl⟩
/-- a text backwards -/
def tBackS (te : TE) : TE := fun σ H Q => te σ H fun x H1 => ∃ z, x = .str z ∧ z.length ≤ sizeLine ∧ Q (.str (revS z)) H1
theorem revS_len (z : Str) : (revS z).length = z.length := by
  show (z.cps.toList.reverse.toArray).size = z.cps.size
  simp
theorem back_ix (z : Str) : ((Builtin.Str.strSliceIndices none none (-1) z.length).filterMap (z.cps[·]?)).toArray = z.cps.toList.reverse.toArray := by
  have e : Builtin.Str.strSliceIndices none none (-1) z.length = sliceRange ((z.length : Int) - 1) (-1) (-1) := rfl
  rw [e, PySem.W.krv_sliceRange, PySem.W.krv_range, List.filterMap_reverse]
  have := PySem.W.krv_all z.cps
  show ((List.range z.cps.size).filterMap (z.cps[·]?)).reverse.toArray = _
  rw [this]
theorem pe_backS {e : Expr} {te : TE} {kk : Nat} {p1 p2 p3 pos : Pos} (he : PE X e te) : PE X (.Subscript e (.Slice none none (some (.UnaryOp .USub (.Constant (.int 1) kk p1) p2)) p3) pos) (tBackS te) := by
  refine ⟨fun pins s σ H Q I h => ?_⟩
  refine Subscript_ (thn (he.run pins s σ H _ I h) fun v s1 ⟨x, H1, I1, r1, q1⟩ => ?_)
  obtain ⟨z, rfl, hz, q⟩ := q1
  obtain ⟨t, rfl⟩ := r1
  have hst : PO X (some (.UnaryOp .USub (.Constant (.int 1) kk p1) p2)) (tPart (tUn (rU fun i => .int (-i)) (tC (.int 1)))) := po_some (pe_un un_neg pe_int)
  refine wpAny_Slice (thn (po_none.run pins s1 σ H1 (fun o H2 => o = none ∧ H2 = H1) I1 ⟨rfl, rfl⟩) fun vl s2 ⟨l, H2, I2, pl, el, e2⟩ => ?_)
  subst el e2
  refine thn (po_none.run pins s2 σ H2 (fun o H3 => o = none ∧ H3 = H2) I2 ⟨rfl, rfl⟩) fun vu s3 ⟨u, H3, I3, pu, eu, e3⟩ => ?_
  subst eu e3
  refine thn (hst.run pins s3 σ H3 (fun o H4 => o = some (-1) ∧ H4 = H3) I3 ⟨1, rfl, -1, rfl, rfl, rfl⟩) fun vs s4 ⟨o, H4, I4, ps, eo, e4⟩ => ?_
  subst eo e4
  have I5 : Inv X pins σ H4 { s4 with heap := s4.heap.push { cls := .type "slice", data := .fields #[vl, vu, vs] } } := I4.kept (t' := s4.toks) fun b ob q => Heap.get?_push_of_some _ q
  show wpAny (model X.prog X.w) X.A (subscriptTail e (.Slice none none (some (.UnaryOp .USub (.Constant (.int 1) kk p1) p2)) p3) (.str z t) (.ref s4.heap.objs.size)) (EP X pins σ Q) X.xe { s4 with heap := s4.heap.push { cls := .type "slice", data := .fields #[vl, vu, vs] } }
  refine tail_any (ops := [.str z t, .ref s4.heap.objs.size]) (typeIs_str _ _ _) (F.slot_str_getitem.lookup) ?_ (by with_unfolding_all rfl)
  obtain ⟨l1, rfl, h1⟩ := IsPart.raw pl
  obtain ⟨l2, rfl, h2⟩ := IsPart.raw pu
  obtain ⟨l3, rfl, h3⟩ := IsPart.raw ps
  refine wpAny_getItem_str_slice (l := l1) (u := l2) (st := l3) ⟨_, Heap.get?_push_size _ rfl, rfl, rfl⟩ (by rw [h3]; rfl) ?_
  unfold sliceMade slicePicked
  rw [h1, h2, h3]
  show Made.post (if (((-1 : Int) == 1) && _) = true then Made.val (.str z t) else Made.str ⟨((Builtin.Str.strSliceIndices none none (-1) z.length).filterMap (z.cps[·]?)).toArray⟩) _ _
  rw [back_ix]
  refine ⟨by show (revS z).length ≤ sizeLine; rw [revS_len]; exact hz, .str _, H4, I5.tok _, ⟨_, rfl⟩, q⟩
theorem c_skS {a : Ex} {e : Expr} {kk : Nat} {p1 p2 p3 pos : Pos} (ha : PEi G X e a) : PEi G X (.Subscript e (.Slice none none (some (.UnaryOp .USub (.Constant (.int 1) kk p1) p2)) p3) pos) (.skS a) := by
  refine PE.imp (pe_backS ha) fun σ H Q h => ?_
  obtain ⟨g, r, s, v, s', R, e, k⟩ := h
  rw [evE] at e
  obtain ⟨x, s1, e1, e⟩ := bnd_eq e
  refine ⟨g, r, s, x, s1, R, e1, fun g1 w H1 R1 p1 r1 => ?_⟩
  split at e
  · rename_i z
    split at e
    · rename_i hz
      cases e
      cases r1 with
      | d h =>
        cases h
        exact ⟨z, rfl, hz, (k.later p1).go R1 (.d (.str _))⟩
    · cases e
  · cases e
theorem c_sk {kk : Sk} {a : Ex} {e : Expr} {lo : Option Expr} {k2 : Nat} {q2 p3 pos : Pos} (hk : (kk = .even ∧ lo = none) ∨ (kk = .odd ∧ ∃ k1 q1, lo = some (.Constant (.int 1) k1 q1))) (ha : PEi G X e a) : PEi G X (.Subscript e (.Slice lo none (some (.Constant (.int 2) k2 q2)) p3) pos) (.sk kk a) := by
  have hst : ∃ t, PO X (some (.Constant (.int 2) k2 q2)) t ∧ ∀ σ H (R : Option Int → Hp → Prop), R (some 2) H → t σ H R := ⟨_, po_some pe_int, fun σ H R h => ⟨2, rfl, h⟩⟩
  have read : ∀ {f : List V → List V} (hf : ∀ {xs : List V} {ds : List PyData} {F : Hp}, DpAll X.K F xs ds → DpAll X.K F (f xs) (skD kk ds)) (σ : L2.St) (H : Hp) (Q : VK), TIe X.K X.mg (evE G (.sk kk a)) σ H Q → tCutL X.K f (TIe X.K X.mg (evE G a)) σ H Q := by
    intro f hf σ H Q h
    obtain ⟨g, r, s, v, s', R, e, k⟩ := h
    rw [evE] at e
    obtain ⟨x, s1, e1, e⟩ := bnd_eq e
    refine ⟨g, r, s, x, s1, R, e1, fun g1 w H1 R1 p1 r1 => ?_⟩
    split at e
    · rename_i xs e2
      cases e
      obtain ⟨p, ys, rfl, q1, q2⟩ := flat_list e2 R1 r1
      refine ⟨p, ys, rfl, q1, fun q hq => ?_⟩
      exact (k.later p1).lst R1 hq (hf q2)
    · cases e
  rcases hk with ⟨rfl, rfl⟩ | ⟨rfl, k1, q1, rfl⟩
  · refine PE.imp (pe_cut (l := none) (s0 := 2) (f := evens) (fu := evens) ha (fun pins s σ H => ⟨_, po_none, fun R h => h⟩) hst (by decide) vals_evens evens_sub pick_two) fun σ H Q h => read (fun h => dp_evens h) σ H Q h
  · refine PE.imp (pe_cut (l := some 1) (s0 := 2) (f := fun xs => evens (xs.drop 1)) (fu := fun xs => evens (xs.drop 1)) ha (fun pins s σ H => ⟨_, po_some pe_int, fun R h => ⟨1, rfl, h⟩⟩) hst (by decide) (fun h => vals_evens (vals_drop1 h)) (fun xs => ?_) pick_one_two) fun σ H Q h => read (fun h => dp_evens (dp_drop1 h)) σ H Q h
    have := evens_sub (xs.drop 1)
    rw [List.length_drop] at this
    omega
end
end MP

/-! MP8: truths, methods, what is walked, comprehensions. -/
namespace MP
open PySem PySem.Spec PyProof.Rows L2 RZ

section
variable {G : Cn} {k : Nat} {X : Cx}
abbrev PIi (G : Cn) (X : Cx) (tg iter : Expr) (p : MP.It) : Prop := PI X tg iter (TIw X.K X.mg (evI G p))
theorem PI.imp {tg iter : Expr} {t t' : TI} (h : PI X tg iter t) (kk : ∀ σ H R, t' σ H R → t σ H R) : PI X tg iter t' := ⟨fun pins s σ H R I q => h.run pins s σ H R I (kk σ H R q)⟩

/-! and, or -/
theorem read_b1 {c : Bool} {a : Ex} {σ : L2.St} {H : Hp} {Q : VK} (h : TIe X.K X.mg (evB G c (.cons a .nil)) σ H Q) : TIe X.K X.mg (evE G a) σ H Q := by
  obtain ⟨g, r, s, v, s', R, e, k⟩ := h
  rw [evB] at e
  obtain ⟨x, s1, e1, e⟩ := bnd_eq e
  split at e
  · simp only [Exs.isNil, if_true] at e
    cases e
    exact ⟨g, r, s, _, _, R, e1, k⟩
  · cases e
theorem read_b2 {c : Bool} {a b : Ex} {as : Exs} {σ : L2.St} {H : Hp} {Q : VK} (h : TIe X.K X.mg (evB G c (.cons a (.cons b as))) σ H Q) :
    TIe X.K X.mg (evE G a) σ H fun x H1 => ∃ d, x = .bl d ∧ if d = c then TIe X.K X.mg (evB G c (.cons b as)) σ H1 Q else Q (.bl d) H1 := by
  obtain ⟨g, r, s, v, s', R, e, k⟩ := h
  rw [evB] at e
  obtain ⟨x, s1, e1, e⟩ := bnd_eq e
  refine ⟨g, r, s, x, s1, R, e1, fun g1 w H1 R1 p1 r1 => ?_⟩
  split at e
  · rename_i d
    rw [if_neg (by simp [Exs.isNil])] at e
    refine ⟨d, rel_bl r1, ?_⟩
    split at e
    · rename_i hd
      rw [if_pos hd]
      exact ⟨g1, r, s1, v, s', ⟨R1, p1.sl R.env⟩, e, k.later p1⟩
    · rename_i hd
      rw [if_neg hd]
      cases e
      exact (k.later p1).go R1 (rep_bl _)
  · cases e
theorem read_t1 {c : Bool} {a : Ex} {σ : L2.St} {H : Hp} {Q : Bool → Hp → Prop} (h : TIt X.K X.mg (evB G c (.cons a .nil)) σ H Q) : TIt X.K X.mg (evE G a) σ H Q := by
  obtain ⟨g, r, s, v, s', R, e, k⟩ := h
  rw [evB] at e
  obtain ⟨x, s1, e1, e⟩ := bnd_eq e
  split at e
  · simp only [Exs.isNil, if_true] at e
    cases e
    exact ⟨g, r, s, _, _, R, e1, k⟩
  · cases e
theorem read_t2 {c : Bool} {a b : Ex} {as : Exs} {σ : L2.St} {H : Hp} {Q : Bool → Hp → Prop} (h : TIt X.K X.mg (evB G c (.cons a (.cons b as))) σ H Q) :
    TIt X.K X.mg (evE G a) σ H fun d H1 => if d = c then TIt X.K X.mg (evB G c (.cons b as)) σ H1 Q else Q d H1 := by
  obtain ⟨g, r, s, v, s', R, e, k⟩ := h
  rw [evB] at e
  obtain ⟨x, s1, e1, e⟩ := bnd_eq e
  split at e
  · rename_i d
    rw [if_neg (by simp [Exs.isNil])] at e
    refine ⟨g, r, s, d, s1, R, e1, fun g1 H1 R1 p1 => ?_⟩
    split at e
    · rename_i hd
      rw [if_pos hd]
      exact ⟨g1, r, s1, v, s', ⟨R1, p1.sl R.env⟩, e, fun g2 H2 R2 p2 => k g2 H2 R2 (p1.trans p2)⟩
    · rename_i hd
      rw [if_neg hd]
      cases e
      exact k g1 H1 R1 p1
  · cases e
def bOp : Bool → BoolOp
  | true => .And
  | false => .Or
theorem c_b1 {c : Bool} {a : Ex} {e : Expr} {pos : Pos} (ha : PEi G X e a) (ht : PTi G X e a) :
    PE X (.BoolOp (bOp c) [e] pos) (TIe X.K X.mg (evB G c (.cons a .nil))) ∧ PW X (.BoolOp (bOp c) [e] pos) (TIt X.K X.mg (evB G c (.cons a .nil))) := by
  refine ⟨PE.imp (pe_one ha) fun _ _ _ h => read_b1 h, ?_⟩
  cases c with
  | true => exact PW.imp (pw_and1 ht) fun _ _ _ h => read_t1 h
  | false => exact PW.imp (pw_or1 ht) fun _ _ _ h => read_t1 h
theorem c_b2 {c : Bool} {a b : Ex} {as : Exs} {e f : Expr} {es : List Expr} {pos : Pos} (ha : PEi G X e a) (ht : PTi G X e a)
    (hb : PE X (.BoolOp (bOp c) (f :: es) pos) (TIe X.K X.mg (evB G c (.cons b as)))) (hw : PW X (.BoolOp (bOp c) (f :: es) pos) (TIt X.K X.mg (evB G c (.cons b as)))) :
    PE X (.BoolOp (bOp c) (e :: f :: es) pos) (TIe X.K X.mg (evB G c (.cons a (.cons b as)))) ∧ PW X (.BoolOp (bOp c) (e :: f :: es) pos) (TIt X.K X.mg (evB G c (.cons a (.cons b as)))) := by
  cases c with
  | true =>
    refine ⟨PE.imp (pe_and ha hb) fun σ H Q h => ?_, PW.imp (pw_and ht hw) fun σ H Q h => ?_⟩
    · obtain ⟨g, r, s, v, s', R, e, k⟩ := read_b2 h
      refine ⟨g, r, s, v, s', R, e, fun g1 w H1 R1 p1 r1 => ?_⟩
      obtain ⟨d, rfl, q⟩ := k g1 w H1 R1 p1 r1
      refine ⟨d, rfl, ?_⟩
      cases d with
      | true => exact q
      | false => exact q
    · obtain ⟨g, r, s, v, s', R, e, k⟩ := read_t2 h
      refine ⟨g, r, s, v, s', R, e, fun g1 H1 R1 p1 => ?_⟩
      have q := k g1 H1 R1 p1
      cases v with
      | true => exact q
      | false => exact q
  | false =>
    refine ⟨PE.imp (pe_or ha hb) fun σ H Q h => ?_, PW.imp (pw_or ht hw) fun σ H Q h => ?_⟩
    · obtain ⟨g, r, s, v, s', R, e, k⟩ := read_b2 h
      refine ⟨g, r, s, v, s', R, e, fun g1 w H1 R1 p1 r1 => ?_⟩
      obtain ⟨d, rfl, q⟩ := k g1 w H1 R1 p1 r1
      refine ⟨d, rfl, ?_⟩
      cases d with
      | true => exact q
      | false => exact q
    · obtain ⟨g, r, s, v, s', R, e, k⟩ := read_t2 h
      refine ⟨g, r, s, v, s', R, e, fun g1 H1 R1 p1 => ?_⟩
      have q := k g1 H1 R1 p1
      cases v with
      | true => exact q
      | false => exact q

/-! isinstance -/
def tysB (sc : Scope) : List Ty → List Expr → Bool
  | [], [] => true
  | t :: ts, e :: es => (match e with
    | .Name x _ => x == Str.ofString (tyN t) && glB sc x
    | _ => false) && tysB sc ts es
  | _, _ => false
theorem ty_boot (t : Ty) : bootBuiltins (Str.ofString (tyN t)) = some (.type (tyN t)) := by cases t <;> decide +kernel
theorem ty_name (t : Ty) : Str.ofString (tyN t) ∈ bltNames := by cases t <;> decide +kernel
theorem pa_tys (o : Okx G k X) {sc : Scope} (he : X.env.scope = sc) : ∀ (ts : List Ty) (es : List Expr), tysB sc ts es = true → stars es = true → PA X es fun _ H Q => Q (ts.map fun t => V.ty (tyN t)) H
  | [], [], _, _ => pa_nil
  | [], _ :: _, h, _ => by simp [tysB] at h
  | _ :: _, [], h, _ => by simp [tysB] at h
  | t :: ts, e :: es, h, hs => by
    simp only [tysB, Bool.and_eq_true] at h
    have hs' : notStar e = true ∧ stars es = true := by simpa [stars] using hs
    cases e with
    | Name x pos =>
      simp only [Bool.and_eq_true, beq_iff_eq] at h
      obtain ⟨⟨h1, h2⟩, h3⟩ := h
      subst h1
      obtain ⟨q1, q2, q3⟩ := glB_ok he h2
      exact PA.imp (pa_cons (pe_bltn (v := .ty (tyN t)) q1 (o.blt _ (ty_name t)) (ty_boot t) rfl q3 q2) (pa_tys o he ts es h3 hs'.2) (star_of hs'.1)) fun _ _ _ q => q
    | _ => simp at h
def isiB (sc : Scope) (ts : List Ty) (e : Expr) : Bool := match e with
  | .Name x _ => (match ts with
    | [t] => x == Str.ofString (tyN t) && glB sc x
    | _ => false)
  | .Tuple es _ _ => tysB sc ts es && stars es && decide (es.length ≤ 1000)
  | _ => false
theorem tysB_len {sc : Scope} : ∀ {ts : List Ty} {es : List Expr}, tysB sc ts es = true → ts.length = es.length
  | [], [], _ => rfl
  | [], _ :: _, h => by simp [tysB] at h
  | _ :: _, [], h => by simp [tysB] at h
  | t :: ts, e :: es, h => by
    simp only [tysB, Bool.and_eq_true] at h
    simp [tysB_len h.2]
def rIs1 (K : PySem.W.Frag) (mg : Str → Option Value) : List V → Hp → VK → Prop := fun xs H Q => ∃ g st a t w v, xs = [w, .ty (tyN t)] ∧ RlS K mg g st H ∧ RepV K g w a ∧ isiv st a [t] = some v ∧ Want K mg g H st v Q
def rIsT (K : PySem.W.Frag) (mg : Str → Option Value) : List V → Hp → VK → Prop := fun xs H Q => ∃ g st a ts w v tp, xs = [w, .ref tp] ∧ H tp = some (.tup (ts.map fun t => V.ty (tyN t))) ∧ RlS K mg g st H ∧ RepV K g w a ∧ isiv st a ts = some v ∧ Want K mg g H st v Q
theorem c_isi (o : Okx G k X) {sc : Scope} (he : X.env.scope = sc) {a : Ex} {ts : List Ty} {e te : Expr} {p pos : Pos} (hg : glB sc "isinstance" = true) (hs : notStar e = true) (ht : isiB sc ts te = true) (ha : PEi G X e a) :
    PEi G X (.Call (.Name "isinstance" p) [e, te] [] pos) (.isi a ts) := by
  obtain ⟨q1, q2, q3⟩ := glB_ok he hg
  have hst : notStar te = true := by
    cases te <;> first | rfl | (simp [isiB] at ht)
  have hstars : stars [te] = true := by simp [stars, hst]
  have hm := o.blt "isinstance" (by decide +kernel)
  have c1 : CallR X (.builtin "isinstance") (rIs1 X.K X.mg) := fun pins s σ H xs us Q I r h => isi1 I r h
  have c2 : CallR X (.builtin "isinstance") (rIsT X.K X.mg) := fun pins s σ H xs us Q I r h => isiT I r h
  have pre : ∀ {σ : L2.St} {H : Hp} {Q : VK}, TIe X.K X.mg (evE G (.isi a ts)) σ H Q → TIe X.K X.mg (evE G a) σ H fun w H1 => ∃ g st x v, RlS X.K X.mg g st H1 ∧ RepV X.K g w x ∧ isiv st x ts = some v ∧ Want X.K X.mg g H1 st v Q := by
    intro σ H Q h
    obtain ⟨g, r, s, v, s', R, e, k⟩ := h
    rw [evE] at e
    obtain ⟨x, s1, e1, e⟩ := bnd_eq e
    split at e
    · rename_i eo
      cases e
      exact ⟨g, r, s, x, _, R, e1, fun g1 w H1 R1 p1 r1 => ⟨g1, _, x, _, R1, r1, eo, k.later p1⟩⟩
    · cases e
  cases te with
  | Name x pos2 =>
    simp only [isiB] at ht
    split at ht
    · rename_i t
      simp only [Bool.and_eq_true, beq_iff_eq] at ht
      obtain ⟨h1, h2⟩ := ht
      subst h1
      obtain ⟨w1, w2, w3⟩ := glB_ok he h2
      refine PE.imp (pe_callB c1 q1 hm boot_isinstance (pa_cons ha (pa_cons (pe_bltn (v := .ty (tyN t)) w1 (o.blt _ (ty_name t)) (ty_boot t) rfl w3 w2) pa_nil (star_of hst)) (star_of hs)) q3 q2 (star_of hs) (backTo_any hstars)) fun σ H Q h => ?_
      obtain ⟨g, r, s, v, s', R, e, k⟩ := pre h
      exact ⟨g, r, s, v, s', R, e, fun g1 w H1 R1 p1 r1 => by
        obtain ⟨g2, st, y, v2, a1, a2, a3, a4⟩ := k g1 w H1 R1 p1 r1
        exact ⟨g2, st, y, t, w, v2, rfl, a1, a2, a3, a4⟩⟩
    · cases ht
  | Tuple es kk pos2 =>
    simp only [isiB, Bool.and_eq_true, decide_eq_true_eq] at ht
    obtain ⟨⟨h1, h2⟩, h3⟩ := ht
    refine PE.imp (pe_callB c2 q1 hm boot_isinstance (pa_cons ha (pa_cons (pe_tup (pa_tys o he ts es h1 h2)) pa_nil (star_of hst)) (star_of hs)) q3 q2 (star_of hs) (backTo_any hstars)) fun σ H Q h => ?_
    obtain ⟨g, r, s, v, s', R, e, k⟩ := pre h
    refine ⟨g, r, s, v, s', R, e, fun g1 w H1 R1 p1 r1 => ⟨?_, fun p hp => ?_⟩⟩
    · rw [List.length_map, tysB_len h1, sizeLine_eq]
      omega
    · obtain ⟨g2, st, y, v2, a1, a2, a3, a4⟩ := k g1 w H1 R1 p1 r1
      exact ⟨g2, st, y, ts, w, v2, p, rfl, upd_same, a1.grow (same_new hp), a2, a3, a4.later (Stp.grow (same_new hp))⟩
  | _ => simp [isiB] at ht

/-! methods of lists -/
def lmN : Lm → Str
  | .append => "append"
  | .extend => "extend"
  | .pop => "pop"
  | .popAt => "pop"
  | .reverse => "reverse"
  | .clear => "clear"
/-- a list's method by what it computes -/
def rLm (K : PySem.W.Frag) (mg : Str → Option Value) (m : Lm) : V → List V → Hp → VK → Prop := fun x vs H Q =>
  ∃ g st n xs ys us v, RlS K mg g st H ∧ RepV K g x (.loc n) ∧ RepVs K g vs us ∧ st[n]? = some (.lst xs) ∧ lmv m xs us = some (v, ys) ∧ Want K mg g H (st.set n (.lst ys)) v Q
theorem lm_put {K : PySem.W.Frag} {mg : Str → Option Value} {g : Gh} {H : Hp} {st : Sto} {n : Nat} {a : Addr} {ys : List V} {zs : List Vl} {v : Vl} {w : V} {Q : VK} (R : RlS K mg g st H) (hn : g.ph[n]? = some a) (hF : g.F a = none) (r : RepVs K g ys zs) (rv : RepV K g w v)
    (k : Want K mg g H (st.set n (.lst zs)) v Q) : Q w (upd H a (.lst ys)) := by
  obtain ⟨R', S'⟩ := R.put (ys := ys) (o := .lst zs) (u := .lst ys) hn hF fun H h => ⟨hF, ys, h, r⟩
  exact k g w _ R' S' rv
/-- what extend does where the list laid on may carry anything beside its items -/
theorem extW (l : Addr) (xs : Array Value) (n : Nat) (b : Addr) (zs : Array Value) (n2 : Nat) (q : Option Addr) (sl : Array (Option Value)) (k0 : ¬(!xs.isEmpty && Builtin.List.listTooLong (xs.size + zs.size)) = true) (k1 : xs.size ≤ sizeLine) (k2 : (xs ++ zs).size ≤ sizeLine + 1) :
    Meets (Builtin.«list.extend» ⟨[.ref l, .ref b], []⟩) (fun _ R s => (s.heap.get? l = some { cls := .type "list", dict := none, data := .seq xs n, slots := #[] } ∧ s.heap.get? b = some { cls := .type "list", dict := q, data := .seq zs n2, slots := sl }) ∧ R (.ok (.ret Value.none)) { s with heap := s.heap.update l (Obj.mapSeq fun x => x ++ zs), toks := s.toks }) :=
  .of_wp fun prog w A R s h => by
    obtain ⟨h0, gg, dd, tt, oo⟩ := s
    obtain ⟨⟨e1, e2⟩, h⟩ := h
    have g3 := AutoSeq1.sub_list_list; have g4 := AutoSeq1.sub_tuple_list; have g1 := AutoSeq1.idx_int; have g2 := AutoSeq1.sub_tuple_tuple; have g5 := AutoSeq1.sub_list_tuple
    wp_walk using (wpAny_updateSeq e1 rfl (hz := k1) (_hz' := k2)), AutoSeq1.wpAny_loadPart' e1, AutoSeq1.wpAny_loadPart' e2
    exact ⟨_, rfl, h⟩
/-- l.extend(b), b a list that stays -/
theorem mt_extendD : MtM X "list.extend" (fun x vs H Q => ∃ l b xs zs, x = .ref l ∧ vs = [.ref b] ∧ H l = some (.lst xs) ∧ SqL X.K H b zs ∧ xs.length + zs.length ≤ sizeLine ∧ Q .non (upd H l (.lst (xs ++ zs)))) := by
  intro pins s σ H x vs v us Q I rx rv h
  obtain ⟨l, b, xs, zs, rfl, rfl, hH, hB, hz, q⟩ := h
  cases rx
  obtain ⟨u, rfl, ru⟩ := rv.one
  cases ru
  obtain ⟨z, its, n, r, hl, e⟩ := I.lstM hH
  obtain ⟨its2, r2, ⟨⟨c1, d1, dt1, sl1⟩, n1, o1, e1', e2', e3'⟩, _⟩ := I.list hB
  simp only at e1' e2' e3'
  subst e1' e2' e3'
  have hl2 := r2.length
  have hsz : its.toArray.size + its2.toArray.size ≤ sizeLine := by rw [List.size_toArray, List.size_toArray, ← r.length, ← hl2]; omega
  have hlong : ¬ (!its.toArray.isEmpty && Builtin.List.listTooLong (its.toArray.size + its2.toArray.size)) = true := by
    rw [notLongL hsz, Bool.and_false]
    exact Bool.false_ne_true
  refine call_meets F.slot_list_extend ⟨_, e, rfl⟩ F.entry_list_extend (F.args_list_extend_2 _ _)
    (extW l its.toArray n b its2.toArray n1 none sl1 hlong (by rw [List.size_toArray, ← r.length]; omega) (by rw [Array.size_append]; omega)) ⟨⟨e, o1⟩, ?_⟩
  refine ⟨.non, _, I.lset (its' := its ++ its2) hH e (by simp) (r.append r2) ?_, rfl, q⟩
  rw [List.length_append]
  omega
theorem lm_ok (m : Lm) : MtM X (match m with
    | .append => "list.append"
    | .extend => "list.extend"
    | .pop => "list.pop"
    | .popAt => "list.pop"
    | .reverse => "list.reverse"
    | .clear => "list.clear") (rLm X.K X.mg m) := by
  intro pins s σ H x vs v us Q I rx rv h
  obtain ⟨g, st, n, xs, ys, zs, w, R, rn, ra, hs, e, k⟩ := h
  cases rn with
  | loc hn =>
    obtain ⟨hF, ws, hH, rw'⟩ := R.obj n _ _ hn hs
    unfold lmv at e
    split at e
    · split at e
      · rename_i hz
        cases e
        obtain ⟨y, rfl, ry⟩ := reps1 ra
        exact mt_append pins s σ H _ _ v us Q I rx rv ⟨_, ws, y, rfl, rfl, hH, by rw [rw'.length]; exact hz, lm_put R hn hF (RepVs.append (.cons ry .nil) rw') (.d .non) k⟩
      · cases e
    · rename_i ds
      split at e
      · rename_i hz
        cases e
        obtain ⟨y, rfl, ry⟩ := reps1 ra
        cases ry with
        | d hd =>
          cases hd with
          | lst h1 h2 => exact mt_extendD pins s σ H _ _ v us Q I rx rv ⟨_, _, ws, _, rfl, rfl, hH, R.fro.seq h1, by rw [rw'.length, dpAll_length h2]; exact hz, lm_put R hn hF (RepVs.append (RepVs.ofData h2) rw') (.d .non) k⟩
      · cases e
    · split at e
      · rename_i y hy
        cases e
        cases ra
        obtain ⟨z, h1, h2⟩ := rw'.get hy
        exact mt_pop pins s σ H _ _ v us Q I rx rv ⟨_, ws, z, rfl, rfl, hH, by rw [rw'.length]; exact h1, lm_put R hn hF rw'.dropLast h2 k⟩
      · cases e
    · rename_i i
      obtain ⟨y, rfl, ry⟩ := reps1 ra
      have e1 := rel_int (u := .none) ry
      subst e1
      split at e
      · rename_i j hj
        split at e
        · rename_i y hy
          cases e
          obtain ⟨z, h1, h2⟩ := rw'.get hy
          obtain ⟨q1, q2, q3, q4⟩ := ixN_seq hj
          have hl := rw'.length
          obtain ⟨hzz, _⟩ := I.lstM hH
          have hn63 := line63
          exact mt_popAt pins s σ H _ _ v us Q I rx rv ⟨_, ws, _, j, z, rfl, rfl, hH, by omega, by omega, by rw [hl]; exact q1, h1, lm_put R hn hF (rw'.eraseIdx j) h2 k⟩
        · cases e
      · cases e
    · cases e
      cases ra
      exact mt_reverse pins s σ H _ _ v us Q I rx rv ⟨_, ws, rfl, rfl, hH, lm_put R hn hF rw'.reverse (.d .non) k⟩
    · cases e
      cases ra
      exact mt_clear pins s σ H _ _ v us Q I rx rv ⟨_, ws, rfl, rfl, hH, lm_put R hn hF .nil (.d .non) k⟩
    · cases e
theorem loc_ty {g : Gh} {st : Sto} {H : Hp} {n : Nat} {xs : List Vl} {w : V} (R : RlS X.K X.mg g st H) (r : RepV X.K g w (.loc n)) (h : st[n]? = some (.lst xs)) : tyV X.K "list" w H := by
  cases r with
  | loc hn =>
    obtain ⟨_, ws, hH, _⟩ := R.obj n _ _ hn h
    exact .inl ⟨rfl, ws, SqL.of hH⟩
theorem few_of {pos : Pos} {env : Env} {es : List Expr} (hs : stars es = true) (hl : es.length < 30) : ((backTo pos (starEach es env)).all (fun x => !x.1) && (backToKw pos (keywordEach [] env)).all (fun x => x.1.isSome)
      && decide (es.length + ([] : List Keyword).length + (if ([] : List Keyword).isEmpty then 0 else 1) < 30)) = true := by
  have h1 : (backTo pos (starEach es env)).all (fun x => !x.1) = true := by
    have := backTo_any (pos := pos) (env := env) hs
    rw [List.any_eq_false] at this
    rw [List.all_eq_true]
    intro x hx
    have := this x hx
    simpa using this
  rw [h1]
  simp [keywordEach, backToKw, hl]
/-- o.m(..) of a list -/
theorem c_lm1 {m : Lm} {T id : String} (hT : T = "list") (hid : id = (match m with
    | .append => "list.append"
    | .extend => "list.extend"
    | .pop => "list.pop"
    | .popAt => "list.pop"
    | .reverse => "list.reverse"
    | .clear => "list.clear")) {name : Str} (slot : Slot "list" name id) (hty : typeOf (.builtin id) = pure (.type "method_descriptor"))
    {o : Ex} {as : Exs} {eo e : Expr} {es : List Expr} {apos pos : Pos} (hb : notSuper eo = true) (hs : stars (e :: es) = true) (hl : (e :: es).length < 30) (hline : (apos.endLine == pos.line) = true) (ho : PEi G X eo o) (ha : PAi G X (e :: es) as) :
    PEi G X (.Call (.Attribute eo name apos) (e :: es) [] pos) (.lm m o as) := by
  subst hid
  have hs' : notStar e = true ∧ stars es = true := by simpa [stars] using hs
  refine PE.imp (pe_bm PySem.F.plainAttrs_list slot hty (lm_ok m) ho ha (base_of hb) (few_of hs hl) hline (star_of hs'.1) (backTo_any hs'.2)) fun σ H Q h => ?_
  obtain ⟨g, r, s, v, s', R, e, k⟩ := h
  rw [evE] at e
  obtain ⟨x, s1, e1, e⟩ := bnd_eq e
  refine ⟨g, r, s, x, s1, R, e1, fun g1 w H1 R1 p1 r1 => ?_⟩
  split at e
  · rename_i n
    split at e
    · rename_i zs hz
      obtain ⟨vs, s2, e2, e⟩ := bnd_eq e
      refine ⟨loc_ty R1 r1 hz, g1, r, s1, vs, s2, ⟨R1, p1.sl R.env⟩, e2, fun g2 ws H2 R2 p2 r2 => ?_⟩
      split at e
      · rename_i ys hy
        split at e
        · rename_i eo
          cases e
          exact ⟨g2, _, n, _, _, vs, _, R2, p2.rep r1, r2, hy, eo, k.later (p1.trans p2)⟩
        · cases e
      · cases e
    · cases e
  · cases e
theorem c_lm0 {m : Lm} {id : String} (hid : id = (match m with
    | .append => "list.append"
    | .extend => "list.extend"
    | .pop => "list.pop"
    | .popAt => "list.pop"
    | .reverse => "list.reverse"
    | .clear => "list.clear")) {name : Str} (slot : Slot "list" name id) (hty : typeOf (.builtin id) = pure (.type "method_descriptor"))
    {o : Ex} {eo : Expr} {apos pos : Pos} (hb : notSuper eo = true) (hline : (apos.endLine == pos.line) = true) (ho : PEi G X eo o) :
    PEi G X (.Call (.Attribute eo name apos) [] [] pos) (.lm m o .nil) := by
  subst hid
  refine PE.imp (pe_bm0 PySem.F.plainAttrs_list slot hty (lm_ok m) ho (base_of hb) hline) fun σ H Q h => ?_
  obtain ⟨g, r, s, v, s', R, e, k⟩ := h
  rw [evE] at e
  obtain ⟨x, s1, e1, e⟩ := bnd_eq e
  refine ⟨g, r, s, x, s1, R, e1, fun g1 w H1 R1 p1 r1 => ?_⟩
  split at e
  · rename_i n
    split at e
    · rename_i zs hz
      rw [evEs, bnd_some] at e
      refine ⟨loc_ty R1 r1 hz, ?_⟩
      split at e
      · rename_i ys hy
        split at e
        · rename_i eo
          cases e
          exact ⟨g1, _, n, _, _, [], _, R1, r1, .nil, hy, eo, k.later p1⟩
        · cases e
      · cases e
    · cases e
  · cases e

/-! what is walked -/
theorem c_seq {tg e : Expr} {a : Ex} (ha : PEi G X e a) : PIi G X tg e (.seq a) := by
  refine ⟨fun pins s σ H R I h => ?_⟩
  obtain ⟨g, r, st, w, s', Rr, e1, k⟩ := h
  rw [evI] at e1
  obtain ⟨x, s1, e2, e1⟩ := bnd_eq e1
  split at e1
  · rename_i w' ew
    cases e1
    cases x with
    | d d =>
      cases d with
      | list xs =>
        cases ew
        refine (pi_list ha).run pins s σ H R I ⟨g, r, st, _, _, Rr, e2, fun g1 w1 H1 R1 p1 r1 => ?_⟩
        cases r1 with
        | d hd =>
          cases hd with
          | lst h1 h2 => exact ⟨_, rfl, ⟨_, R1.fro.seq h1⟩, k g1 _ H1 R1 p1 (wk_list h1 h2)⟩
      | tuple xs =>
        cases ew
        refine (pi_tup ha).run pins s σ H R I ⟨g, r, st, _, _, Rr, e2, fun g1 w1 H1 R1 p1 r1 => ?_⟩
        cases r1 with
        | d hd =>
          cases hd with
          | tup h1 h2 => exact ⟨_, rfl, ⟨_, sqT_same R1.fro h1⟩, k g1 _ H1 R1 p1 (wk_tup h1 (RepVs.ofData h2))⟩
      | str z =>
        cases ew
        refine (pi_str ha).run pins s σ H R I ⟨g, r, st, _, _, Rr, e2, fun g1 w1 H1 R1 p1 r1 => ⟨z, rel_str r1, k g1 _ H1 R1 p1 wk_str⟩⟩
      | none => cases ew
      | bool b => cases ew
      | int i => cases ew
      | dict z => cases ew
    | mix vs =>
      cases ew
      refine (pi_tup ha).run pins s σ H R I ⟨g, r, st, _, _, Rr, e2, fun g1 w1 H1 R1 p1 r1 => ?_⟩
      cases r1 with
      | mix h1 h2 => exact ⟨_, rfl, ⟨_, sqT_same R1.fro h1⟩, k g1 _ H1 R1 p1 (wk_tup h1 h2)⟩
    | loc n =>
      unfold wkOf at ew
      simp only at ew
      split at ew
      · rename_i vs hs
        cases ew
        refine (pi_list ha).run pins s σ H R I ⟨g, r, st, _, _, Rr, e2, fun g1 w1 H1 R1 p1 r1 => ?_⟩
        cases r1 with
        | loc hn =>
          obtain ⟨_, ys, h3, _⟩ := R1.obj n _ _ hn hs
          exact ⟨_, rfl, ⟨ys, SqL.of h3⟩, k g1 _ H1 R1 p1 (wk_loc hn)⟩
      · cases ew
  · cases e1
theorem small_of {i : Int} (h : smallI i) : -(2 ^ 62) ≤ i ∧ i < 2 ^ 62 := h
theorem c_rng1 (o : Okx G k X) {tg e : Expr} {a : Ex} {p pos : Pos} (hg : Gl X "range") (hs : notStar e = true) (ha : PEi G X e a) : PIi G X tg (.Call (.Name "range" p) [e] [] pos) (.rng1 a) := by
  refine PI.imp (pi_range1 hg (o.blt _ (by decide +kernel)) (pa_cons ha pa_nil (star_of hs)) (star_of hs)) fun σ H R h => ?_
  obtain ⟨g, r, st, w, s', Rr, e1, k⟩ := h
  rw [evI] at e1
  obtain ⟨x, s1, e2, e1⟩ := bnd_eq e1
  split at e1
  · rename_i n
    split at e1
    · rename_i hn
      cases e1
      refine ⟨g, r, st, _, _, Rr, e2, fun g1 w1 H1 R1 p1 r1 => ⟨n, ?_, (small_of hn).1, (small_of hn).2, k g1 _ H1 R1 p1 wk_range⟩⟩
      rw [rel_int (u := .none) r1]
    · cases e1
  · cases e1
theorem c_rng2 (o : Okx G k X) {tg e f : Expr} {a b : Ex} {p pos : Pos} (hg : Gl X "range") (hs : notStar e = true) (hs2 : notStar f = true) (ha : PEi G X e a) (hb : PEi G X f b) : PIi G X tg (.Call (.Name "range" p) [e, f] [] pos) (.rng2 a b) := by
  refine PI.imp (pi_range2 hg (o.blt _ (by decide +kernel)) (pa_cons ha (pa_cons hb pa_nil (star_of hs2)) (star_of hs)) (by rw [star_of hs, star_of hs2]; rfl) (star_of hs2)) fun σ H R h => ?_
  obtain ⟨g, r, st, w, s', Rr, e1, k⟩ := h
  rw [evI] at e1
  obtain ⟨x, s1, e2, e1⟩ := bnd_eq e1
  obtain ⟨y, s2, e3, e1⟩ := bnd_eq e1
  split at e1
  · rename_i m n
    split at e1
    · rename_i hn
      cases e1
      refine ⟨g, r, st, _, _, Rr, e2, fun g1 w1 H1 R1 p1 r1 => ⟨g1, r, _, _, _, ⟨R1, p1.sl Rr.env⟩, e3, fun g2 w2 H2 R2 p2 r2 => ⟨_, _, ?_, ⟨(small_of hn.1).1, (small_of hn.1).2, (small_of hn.2).1, (small_of hn.2).2⟩, k g2 _ H2 R2 (p1.trans p2) wk_range⟩⟩⟩
      rw [rel_int (u := .none) r1, rel_int (u := .none) r2]
    · cases e1
  · cases e1
theorem c_zip (o : Okx G k X) {elts : List Expr} {kk : Nat} {tpos : Pos} {e f : Expr} {a b : Ex} {p pos : Pos} (hg : Gl X "zip") (hs : notStar e = true) (hs2 : notStar f = true) (ha : PEi G X e a) (hb : PEi G X f b) : PIi G X (.Tuple elts kk tpos) (.Call (.Name "zip" p) [e, f] [] pos) (.zip a b) := by
  refine PI.imp (pi_zipA hg (o.blt _ (by decide +kernel)) (pa_cons ha (pa_cons hb pa_nil (star_of hs2)) (star_of hs)) (star_of hs) (backTo_any (by simp [stars, hs2]))) fun σ H R h => ?_
  obtain ⟨g, r, st, w, s', Rr, e1, k⟩ := h
  rw [evI] at e1
  obtain ⟨x, s1, e2, e1⟩ := bnd_eq e1
  obtain ⟨y, s2, e3, e1⟩ := bnd_eq e1
  split at e1
  · cases e1
    refine ⟨g, r, st, _, _, Rr, e2, fun g1 w1 H1 R1 p1 r1 => ⟨g1, r, s1, _, _, ⟨R1, p1.sl Rr.env⟩, e3, fun g2 w2 H2 R2 p2 r2 => ?_⟩⟩
    have r1' := p2.rep r1
    cases r1' with
    | d h1 =>
      cases r2 with
      | d h2 =>
        cases h1 with
        | lst a1 a2 =>
          cases h2 with
          | lst b1 b2 => exact ⟨_, _, _, _, rfl, .inl ⟨R2.fro.seq a1, R2.fro.seq b1, k g2 _ H2 R2 (p1.trans p2) (wk_zipL a1 a2 b1 b2)⟩⟩
  · cases e1
    refine ⟨g, r, st, _, _, Rr, e2, fun g1 w1 H1 R1 p1 r1 => ⟨g1, r, s1, _, _, ⟨R1, p1.sl Rr.env⟩, e3, fun g2 w2 H2 R2 p2 r2 => ?_⟩⟩
    have r1' := p2.rep r1
    cases r1' with
    | d h1 =>
      cases r2 with
      | d h2 =>
        cases h1 with
        | tup a1 a2 =>
          cases h2 with
          | tup b1 b2 => exact ⟨_, _, _, _, rfl, .inr ⟨sqT_same R2.fro a1, sqT_same R2.fro b1, k g2 _ H2 R2 (p1.trans p2) (wk_zipT a1 a2 b1 b2)⟩⟩
  · rename_i n ys
    split at e1
    · rename_i vs hs
      split at e1
      · rename_i xs hx
        cases e1
        refine ⟨g, r, st, _, _, Rr, e2, fun g1 w1 H1 R1 p1 r1 => ⟨g1, r, s1, _, _, ⟨R1, p1.sl Rr.env⟩, e3, fun g2 w2 H2 R2 p2 r2 => ?_⟩⟩
        have r1' := p2.rep r1
        cases r1' with
        | loc hp =>
          cases r2 with
          | d h2 =>
            cases h2 with
            | lst b1 b2 =>
              obtain ⟨_, zs, h5, h6⟩ := R2.obj _ _ _ hp hs
              exact ⟨_, _, _, _, rfl, .inl ⟨SqL.of h5, R2.fro.seq b1, k g2 _ H2 R2 (p1.trans p2) (wk_zipLoc hp hx b1 b2)⟩⟩
      · cases e1
    · cases e1
  · cases e1
    refine ⟨g, r, st, _, _, Rr, e2, fun g1 w1 H1 R1 p1 r1 => ⟨g1, r, s1, _, _, ⟨R1, p1.sl Rr.env⟩, e3, fun g2 w2 H2 R2 p2 r2 => ?_⟩⟩
    have r1' := p2.rep r1
    cases r1' with
    | mix h1 h1' =>
      cases r2 with
      | d h2 =>
        cases h2 with
        | tup b1 b2 => exact ⟨_, _, _, _, rfl, .inr ⟨sqT_same R2.fro h1, sqT_same R2.fro b1, k g2 _ H2 R2 (p1.trans p2) (wk_zipMix h1 h1' b1 b2)⟩⟩
  · cases e1
theorem c_enum (o : Okx G k X) {elts : List Expr} {kk : Nat} {tpos : Pos} {e : Expr} {a : Ex} {p pos : Pos} (hg : Gl X "enumerate") (hs : notStar e = true) (ha : PEi G X e a) : PIi G X (.Tuple elts kk tpos) (.Call (.Name "enumerate" p) [e] [] pos) (.enum a) := by
  refine PI.imp (pi_enum hg (o.blt _ (by decide +kernel)) (pa_cons ha pa_nil (star_of hs)) (star_of hs)) fun σ H R h => ?_
  obtain ⟨g, r, st, w, s', Rr, e1, k⟩ := h
  rw [evI] at e1
  obtain ⟨x, s1, e2, e1⟩ := bnd_eq e1
  split at e1
  · cases e1
    refine ⟨g, r, st, _, _, Rr, e2, fun g1 w1 H1 R1 p1 r1 => ?_⟩
    cases r1 with
    | d h1 =>
      cases h1 with
      | lst a1 a2 => exact ⟨_, _, rfl, R1.fro.seq a1, k g1 _ H1 R1 p1 (wk_enum a1 a2)⟩
  · cases e1
theorem c_revI (o : Okx G k X) {tg e : Expr} {a : Ex} {p pos : Pos} (hg : Gl X "reversed") (hs : notStar e = true) (ha : PEi G X e a) : PIi G X tg (.Call (.Name "reversed" p) [e] [] pos) (.rev a) := by
  refine PI.imp (pi_reversed hg (o.blt _ (by decide +kernel)) (pa_cons ha pa_nil (star_of hs)) (star_of hs)) fun σ H R h => ?_
  obtain ⟨g, r, st, w, s', Rr, e1, k⟩ := h
  rw [evI] at e1
  obtain ⟨x, s1, e2, e1⟩ := bnd_eq e1
  split at e1
  · cases e1
    refine ⟨g, r, st, _, _, Rr, e2, fun g1 w1 H1 R1 p1 r1 => ?_⟩
    cases r1 with
    | d h1 =>
      cases h1 with
      | lst a1 a2 => exact ⟨_, _, rfl, R1.fro.seq a1, k g1 _ H1 R1 p1 (wk_rev a1 a2)⟩
  · cases e1

/-! comprehensions -/
theorem RlS.other {K : PySem.W.Frag} {mg : Str → Option Value} {g : Gh} {s : Sto} {H : Hp} {D : Addr} {o : HO} (R : RlS K mg g s H) (h1 : D ∉ g.ph) (h2 : g.F D = none) : RlS K mg g s (upd H D o) := by
  refine ⟨fun b x e => ?_, R.len, R.nd, fun n a u e1 e2 => ?_⟩
  · rw [upd_ne (fun z => by rw [z, h2] at e; cases e)]
    exact R.fro _ _ e
  · have hne : a ≠ D := fun z => h1 (z ▸ List.mem_of_getElem? e1)
    have q := R.obj n a u e1 e2
    cases u with
    | lst vs => obtain ⟨f, xs, q, r⟩ := q; exact ⟨f, xs, (upd_ne hne).trans q, r⟩
    | ins c fs => obtain ⟨f, C, dx, ys, q, r⟩ := q; exact ⟨f, C, dx, ys, (upd_ne hne).trans q, r⟩
    | dead => exact q
theorem Stp.other {g g' : Gh} {H H' : Hp} {D : Addr} {o : HO} (p : Stp g H g' H') (hD : H D = none) : Stp g H g' (upd H' D o) := ⟨fun a u e hm => by
  rw [upd_ne (fun z => by rw [z, hD] at e; cases e)]
  exact p.sub a u e hm, p.fr, p.nf, p.pre, p.nl⟩
/-- a tracked thing that the store does not have stays -/
theorem Stp.stay {g g' : Gh} {H H' : Hp} {D : Addr} {o : HO} (p : Stp g H g' H') (hD : H D = some o) (h1 : D ∉ g.ph) (h2 : g.F D = none) : H' D = some o ∧ D ∉ g'.ph ∧ g'.F D = none := by
  refine ⟨p.sub D o hD h1, fun z => ?_, ?_⟩
  · rcases p.nl D z with q | q
    · exact h1 q
    · rw [hD] at q
      cases q
  · cases q : g'.F D with
    | none => rfl
    | some u =>
      rcases p.nf D (by rw [q]; simp) with z | z | z
      · exact absurd h2 z
      · rw [hD] at z
        cases z
      · exact absurd z h1
theorem wipeN_len (r : Nv) : ∀ is, (wipeN r is).length = r.length
  | [] => rfl
  | i :: is => by
    unfold wipeN
    rw [List.length_set, wipeN_len r is]
theorem sl_wipe {K : PySem.W.Frag} {g : Gh} {σ : L2.St} {r : Nv} (h : Sl K g σ r) : ∀ is, Sl K g (L2.wipe σ is) (wipeN r is)
  | [] => h
  | i :: is => by
    have ih := sl_wipe h is
    unfold L2.wipe wipeN
    refine ⟨by simp [ih.1], fun j y e => ?_⟩
    by_cases hj : i = j
    · subst hj
      by_cases hl : i < (wipeN r is).length
      · rw [List.getElem?_set_self hl] at e
        cases e
      · rw [List.getElem?_eq_none (by simp; omega)] at e
        cases e
    · rw [List.getElem?_set_ne hj] at e ⊢
      exact ih.2 j y e
theorem wipe_ch (σ : L2.St) : ∀ is, Ch is σ (L2.wipe σ is)
  | [] => Ch.refl _ _
  | i :: is => by
    have ih := wipe_ch σ is
    unfold L2.wipe
    refine ⟨by simp [ih.1], fun j h => ?_⟩
    rw [List.mem_cons, not_or] at h
    rw [List.getElem?_set_ne (Ne.symm h.1)]
    exact ih.2 j h.2
theorem okGb_ok {g : List (Nat × List Vl)} {s : Sto} (h : okGb g s = true) : okG g s := by
  unfold okGb at h
  exact @of_decide_eq_true _ (Classical.propDecidable _) h
theorem read_comp {z : Bool} {own : List Nat} {tg : Tg} {it : MP.It} {c : Ox} {e : Ex} {ownN : List (Str × Nat)} (hown : ownN.map (·.2) = own) (htg : ∀ i ∈ tgIx tg, i ∈ own) {σ : L2.St} {H : Hp} {Q : VK} (h : TIe X.K X.mg (evE G (.comp z own tg it c e)) σ H Q) :
    tLc (TIw X.K X.mg (evI G it)) (gR X.K X.mg tg) (TIt X.K X.mg (evC G c)) (TIe X.K X.mg (evE G e)) (ownN.map (·.2)) σ H Q := by
  obtain ⟨g, r, s, v, s', R, e1, k⟩ := h
  rw [evE] at e1
  obtain ⟨w, s1, e2, e1⟩ := bnd_eq e1
  obtain ⟨vs, s2, e3, e1⟩ := bnd_eq e1
  split at e1
  · rename_i hsz
    rw [hown]
    refine ⟨g, r, s, w, s1, R, e2, fun g1 J H1 R1 p1 wk D hD => ?_⟩
    have hDF : g1.F D = none := R1.fro.free hD
    have hDp : D ∉ g1.ph := fun q => R1.there q hD
    refine ⟨fun i m H' => m = w.1.length - i ∧ i ≤ w.1.length ∧ ∃ gg st acc xs rest, RlS X.K X.mg gg st H' ∧ Stp g1 H1 gg H' ∧ H' D = some (.lst xs) ∧ D ∉ gg.ph ∧ gg.F D = none ∧ RepVs X.K gg xs acc ∧
        turnsC w.2 (fun v => bindT tg v (wipeN r own)) (evC G c) (evE G e) (w.1.drop i) st = some (rest, s2) ∧ vs = acc ++ rest,
      ⟨w.1.length, by simp, Nat.zero_le _, g1, s1, [], [], vs, R1.grow (same_new hD), Stp.grow (same_new hD), upd_same, hDp, hDF, .nil, by simpa using e3, by simp⟩, ?_⟩
    rintro i m H2 ⟨rfl, hle, gg, st, acc, xs, rest, R2, p2, hx, hp, hF, ra, et, ev⟩
    by_cases hlt : i < w.1.length
    · obtain ⟨x, hx0⟩ : ∃ x, w.1[i]? = some x := ⟨w.1[i], List.getElem?_eq_getElem hlt⟩
      have hdrop : w.1.drop i = x :: w.1.drop (i + 1) := by
        rw [List.drop_eq_getElem_cons hlt]
        rw [List.getElem?_eq_getElem hlt] at hx0
        cases hx0
        rfl
      rw [hdrop] at et
      unfold turnsC at et
      split at et
      · rename_i hok
        obtain ⟨r1, b1, et⟩ := Option.bind_eq_some_iff.mp et
        obtain ⟨b, sa, eb, et⟩ := bnd_eq et
        obtain ⟨q1, q2⟩ := wk.go gg st H2 i x p2.fr p2.pre R2 (okGb_ok hok) hx0
        refine .inr ⟨q1, fun H' => ∃ gg st acc xs rest, RlS X.K X.mg gg st H' ∧ Stp g1 H1 gg H' ∧ H' D = some (.lst xs) ∧ D ∉ gg.ph ∧ gg.F D = none ∧ RepVs X.K gg xs acc ∧
          turnsC w.2 (fun v => bindT tg v (wipeN r own)) (evC G c) (evE G e) (w.1.drop (i + 1)) st = some (rest, s2) ∧ vs = acc ++ rest, fun H' hh => ⟨_, by omega, rfl, by omega, hh⟩, fun y H5 hy => ?_⟩
        obtain ⟨g5, R5, p5, ry⟩ := q2 y H5 hy
        refine ⟨g5, wipeN r own, st, x, r1, ⟨R5, (p1.trans (p2.trans p5)).sl (sl_wipe R.env own)⟩, ry, b1, fun σ' l' ch' => ⟨?_, ?_⟩⟩
        · rw [Ch.wipe htg ch']
          exact Ch.wipe (fun _ h => h) (wipe_ch σ own)
        · obtain ⟨hx5, hp5, hF5⟩ := p5.stay hx hp hF
          split at et
          · obtain ⟨x2, sb, ex, et⟩ := bnd_eq et
            obtain ⟨rest2, sc, er, et⟩ := bnd_eq et
            cases et
            refine ⟨g5, r1, st, true, sa, ⟨R5, l'⟩, eb, fun g6 H6 R6 p6 => iteT ⟨g6, r1, sa, x2, sb, ⟨R6, p6.sl l'⟩, ex, fun g7 w7 H7 R7 p7 r7 => ?_⟩⟩
            obtain ⟨hx7, hp7, hF7⟩ := (p6.trans p7).stay hx5 hp5 hF5
            have pall := p2.trans (p5.trans (p6.trans p7))
            refine ⟨xs, hx7, ?_, g7, sb, acc ++ [x2], xs ++ [w7], rest2, R7.other hp7 hF7, pall.other hD, upd_same, hp7, hF7, RepVs.append (.cons r7 .nil) (((p5.trans (p6.trans p7))).reps ra), er, by rw [ev]; simp⟩
            have l1 := ra.length
            have l2 : vs.length = acc.length + (rest2.length + 1) := by rw [ev]; simp
            have l3 := hsz.1
            rw [sizeLine_eq]
            omega
          · refine ⟨g5, r1, st, false, sa, ⟨R5, l'⟩, eb, fun g6 H6 R6 p6 => iteF ?_⟩
            obtain ⟨hx6, hp6, hF6⟩ := p6.stay hx5 hp5 hF5
            exact ⟨g6, sa, acc, xs, rest, R6, p2.trans (p5.trans p6), hx6, hp6, hF6, (p5.trans p6).reps ra, et, ev⟩
          · cases et
      · cases et
    · have hi2 : i = w.1.length := by omega
      rw [hi2, List.drop_length] at et
      unfold turnsC at et
      split at et
      · rename_i hok
        have est : st = s2 := by cases et; rfl
        have erest : rest = [] := by cases et; rfl
        subst est
        refine .inl ⟨wk.stop gg st H2 i p2.fr p2.pre R2 (okGb_ok hok) (by omega), ?_⟩
        rw [erest, List.append_nil] at ev
        subst ev
        have pz := p1.trans p2
        have hD0 : H D = none := by
          cases q : H D with
          | none => rfl
          | some u =>
            have hm : D ∉ g.ph := fun z => hDp (p1.pre.subset z)
            have := p1.sub D u q hm
            rw [hD] at this
            cases this
        unfold newL at e1
        split at e1
        · cases h5 : allD vs with
          | none => rw [h5] at e1; cases e1
          | some ds =>
            rw [h5] at e1
            cases e1
            have R3 := R2.froze2 hx hp hF
            refine k _ _ _ R3 ⟨pz.sub, pz.fr.trans (same_new hF), fun a ha => ?_, pz.pre, pz.nl⟩ (.d (.lst (SqL.of upd_same) (dpAll_same (same_new hF) (ra.data h5))))
            by_cases hz : a = D
            · exact .inr (.inl (hz ▸ hD0))
            · have ha' : upd gg.F D (.lst xs) a ≠ none := ha
              rw [upd_ne hz] at ha'
              exact pz.nf a ha'
        · cases e1
          have R3 := R2.take2 hx hp hF ra
          refine k _ _ _ R3 ⟨pz.sub, pz.fr, pz.nf, pz.pre.trans (List.prefix_append _ _), fun a ha => ?_⟩ (.loc ?_)
          · rcases List.mem_append.mp ha with ha | ha
            · exact pz.nl a ha
            · have hz : a = D := by simpa using ha
              exact .inr (hz ▸ hD0)
          · show (gg.ph ++ [D])[st.length]? = some D
            rw [← R2.len, List.getElem?_append_right (Nat.le_refl _)]
            simp
      · cases et
  · cases e1
theorem c_comp (o : Okx G k X) {z : Bool} {own : List Nat} {tg : Tg} {it : MP.It} {c : Ox} {e : Ex} {elt tgE iter : Expr} {ifs : List Expr} {scope : Scope} {ownN : List (Str × Nat)} {pos : Pos}
    (hi : PIi G X tgE iter it) (ok : BlkOk X.N X.env.scope scope ownN) (hown : ownN.map (·.2) = own) (htg : ∀ i ∈ tgIx tg, i ∈ own)
    (hg : ∀ (s : Shared) (H : Hp) (C : Addr) (cl : List (Str × Addr)) (fp : List Addr), PG (X.blk s H scope (compEnvC scope cl C X.env) fp) tgE (gR X.K X.mg tg))
    (ht : ∀ (s : Shared) (H : Hp) (C : Addr) (cl : List (Str × Addr)) (fp : List Addr), PTs (X.blk s H scope (compEnvC scope cl C X.env) fp) ifs (TIt X.K X.mg (evC G c)))
    (he : ∀ (s : Shared) (H : Hp) (C : Addr) (cl : List (Str × Addr)) (fp : List Addr), PE (X.blk s H scope (compEnvC scope cl C X.env) fp) elt (TIe X.K X.mg (evE G e)))
    (hs : ∀ x, foldedSetIterable iter X.env x = pure x) : PEi G X (.ListComp elt [⟨tgE, iter, ifs, 0⟩] scope pos) (.comp z own tg it c e) := by
  exact PE.imp (pe_lc o.calm o.nd hi ok hg ht he hs) fun σ H Q h => read_comp hown htg h
/-! keywords -/
theorem c_knil : PK X [] (TIa X.K X.mg (evEs G .nil)) := by
  refine ⟨fun pos pins s σ H Q I h => (pk_nil (X := X)).run pos pins s σ H Q I ?_⟩
  obtain ⟨g, r, st, v, s', R, e, kk⟩ := h
  rw [evEs] at e
  cases e
  exact kk g [] H R.st (Stp.refl _ _) .nil
theorem c_kcons {p : Ex} {as : Exs} {d : Keyword} {ds : List Keyword} (h1 : PEi G X d.value p) (h2 : PK X ds (TIa X.K X.mg (evEs G as))) : PK X (d :: ds) (TIa X.K X.mg (evEs G (.cons p as))) := by
  obtain ⟨nm, e, kpos⟩ := d
  refine ⟨fun pos pins s σ H Q I h => (pk_cons (X := X) h1 h2).run pos pins s σ H Q I ?_⟩
  obtain ⟨g, r, st, v, s', R, e, kk⟩ := h
  rw [evEs] at e
  obtain ⟨x, s1, e1, e⟩ := bnd_eq e
  obtain ⟨xs, s2, e2, e⟩ := bnd_eq e
  cases e
  exact ⟨g, r, st, x, s1, R, e1, fun g1 w1 H1 R1 p1 r1 => ⟨g1, r, s1, xs, _, ⟨R1, p1.sl R.env⟩, e2, fun g2 ws H2 R2 p2 r2 => kk g2 (w1 :: ws) H2 R2 (p1.trans p2) (.cons (p2.rep r1) r2)⟩⟩
theorem takeK_rep {K : PySem.W.Frag} {g : Gh} {ws : List V} {xs : List Vl} (r : RepVs K g ws xs) : ∀ {is : List Nat} {ys : List Vl}, takeK xs is = some ys → ∃ zs, takeK ws is = some zs ∧ RepVs K g zs ys
  | [], _, e => by cases e; exact ⟨[], rfl, .nil⟩
  | i :: is, ys, e => by
    unfold takeK at e
    split at e
    · rename_i u hu
      obtain ⟨ys', h1, rfl⟩ := Option.map_eq_some_iff.mp e
      obtain ⟨v, hv, rv⟩ := r.get hu
      obtain ⟨zs, h2, h3⟩ := takeK_rep r h1
      exact ⟨v :: zs, by unfold takeK; rw [hv]; simp only []; rw [h2]; rfl, .cons rv h3⟩
    · cases e
theorem takeK_vals {ws : List V} {us : List Value} (r : Vals ws us) : ∀ {is : List Nat} {ys : List V}, takeK ws is = some ys → ∃ zs, takeK us is = some zs ∧ Vals ys zs
  | [], _, e => by cases e; exact ⟨[], rfl, .nil⟩
  | i :: is, ys, e => by
    unfold takeK at e
    split at e
    · rename_i u hu
      obtain ⟨ys', h1, rfl⟩ := Option.map_eq_some_iff.mp e
      obtain ⟨v, hv, rv⟩ := r.get hu
      obtain ⟨zs, h2, h3⟩ := takeK_vals r h1
      exact ⟨v :: zs, by unfold takeK; rw [hv]; simp only []; rw [h2]; rfl, .cons rv h3⟩
    · cases e
theorem vals_app {ws zs : List V} {us ys : List Value} (q : Vals zs ys) (r : Vals ws us) : Vals (ws ++ zs) (us ++ ys) := by
  induction r with
  | nil => exact q
  | cons a _ ih => exact .cons a ih
theorem kw_all {kws : List Keyword} {ks : List Str} {pos : Pos} {env : Env} (h : kws.map (·.arg) = ks.map some) : (backToKw pos (keywordEach kws env)).all (·.1.isSome) = true ∧ (backToKw pos (keywordEach kws env)).filterMap (·.1) = ks ∧ (backToKw pos (keywordEach kws env)).any (·.1.isNone) = false := by
  revert ks
  induction kws with
  | nil =>
    intro ks h
    cases ks with
    | nil => exact ⟨rfl, rfl, rfl⟩
    | cons a b => cases h
  | cons d ds ih =>
    intro ks h
    obtain ⟨nm, e, kpos⟩ := d
    cases ks with
    | nil => cases h
    | cons a b =>
      simp only [List.map_cons, List.cons.injEq] at h
      obtain ⟨h1, h2⟩ := h
      subst h1
      obtain ⟨q1, q2, q3⟩ := ih h2
      unfold backToKw at q1 q2 q3 ⊢
      rw [keywordEach, List.map_cons]
      exact ⟨by simpa using q1, by simpa using q2, by simpa using q3⟩
/-- the call itself, all arguments there -/
theorem run_k (o : Okx G k X) {fa : Addr} {fd : FuncData} {ps ks : List Str} {sp : List V → Hp → VK → Prop} (F : FnG X.prog X.w X.K X.mg X.base k fa fd ps sp) {pins : List (Addr × Obj)} {σ : L2.St} {H : Hp} {s : Shared} {Q : VK} {us ws zs : List Value} {vs zV : List V}
    (I : Inv X pins σ H s) (r : Vals vs us) (rz : Vals zV zs) (hb : BindsTo s fd ⟨us, ks.zip ws⟩ (ps.zip (us ++ zs))) (h : sp (vs ++ zV) H Q) : wpAny (model X.prog X.w) X.A (call (.ref fa) us (ks.zip ws)) (EP X pins σ Q) X.xe s := by
  refine wpAny_call (codeAny_mono (F.run X.A X.stack s H ⟨us, ks.zip ws⟩ (us ++ zs) (vs ++ zV) Q o.room o.gu I.env0 hb (vals_app rz r) h) fun q s' hq => ?_)
  cases q with
  | error e => exact False.elim hq
  | ok fl =>
    cases fl with
    | ret u => exact I.after hq
    | next => exact False.elim hq
    | brk => exact False.elim hq
    | cont => exact False.elim hq
theorem c_callk (o : Okx G k X) {f x : Str} {as zs : Exs} {ks : List Str} {e : Expr} {es : List Expr} {kws : List Keyword} {p pos : Pos} (hx : bs f = x) (hg : Gl X x) (hdb : (x == ("__debug__" : Str)) = false) (hs : stars (e :: es) = true) (hk : kws.map (·.arg) = ks.map some)
    (hl : ∀ r s us s', evEs G zs r s = some (us, s') → us.length = ks.length) (ha : PAi G X (e :: es) as) (hz : PK X kws (TIa X.K X.mg (evEs G zs))) : PEi G X (.Call (.Name x p) (e :: es) kws pos) (.callk f as ks zs) := by
  subst hx
  refine ⟨fun pins s σ H Q I h => ?_⟩
  obtain ⟨g, r, st, v, s', R, e1, kk⟩ := h
  rw [evE] at e1
  obtain ⟨xs, s1, e2, e1⟩ := bnd_eq e1
  obtain ⟨us, s2, e3, e1⟩ := bnd_eq e1
  have hul := hl _ _ _ _ e3
  obtain ⟨fa, fd, ps, is, ws, dV, dv, dd, hm, hkp, F, hdv, hdd, ht, hrun, hb⟩ := o.runk f xs ks us s2 v s' e1 hul
  have hs' : notStar e = true ∧ stars es = true := by simpa [stars] using hs
  obtain ⟨k1, k2, k3⟩ := kw_all (pos := pos) (env := X.env) hk
  have hpl : ((backTo pos (starEach (e :: es) X.env)).any (·.1) || (backToKw pos (keywordEach kws X.env)).any (·.1.isNone)) = false := by rw [backTo_any hs, k3]; rfl
  refine wpAny_Call_Name_kw (ld_glob I hg hm ?_ hdb)
  refine PySem.W.callWith_KW (h₀ := X.base) I.ok.mod.kin hkp k1 (thn (ha.run pos pins s σ H (fun vs H1 => ∃ g1, RlS X.K X.mg g1 s1 H1 ∧ Stp g H g1 H1 ∧ RepVs X.K g1 vs xs) I ⟨g, r, st, xs, s1, R, e2, fun g1 ws H1 R1 p1 r1 => ⟨g1, R1, p1, r1⟩⟩) fun uv t1 ⟨vs, H1, I1, rv, g1, R1, p1, r1⟩ => ?_) hpl (star_of hs'.1)
  refine thn (hz.run pos pins t1 σ H1 (fun zs H2 => ∃ g2, RlS X.K X.mg g2 s2 H2 ∧ Stp g1 H1 g2 H2 ∧ RepVs X.K g2 zs us) I1 ⟨g1, r, s1, us, s2, ⟨R1, p1.sl R.env⟩, e3, fun g2 ws H2 R2 p2 r2 => ⟨g2, R2, p2, r2⟩⟩) fun wv t2 ⟨zs, H2, I2, rz, g2, R2, p2, r2⟩ => ⟨I2.kIn, ?_⟩
  rw [k2]
  have hdd2 : DpAll X.K g2.F dV dd := dpAll_same (fun a o z => by cases z) hdd
  obtain ⟨zV, hzV, rzV⟩ := takeK_rep (RepVs.append (RepVs.ofData hdd2) r2) ht
  obtain ⟨zv, hzv, rzv⟩ := takeK_vals (vals_app hdv rz) hzV
  refine run_k o F I2 rv rzv (hb _ uv wv zv I2.kIn (by rw [← rv.length, r1.length]) (by rw [← rz.length, r2.length, hul]) hzv) ?_
  exact ⟨g2, s2, xs ++ ws, v, s', R2, RepVs.append rzV (p2.reps r1), hrun, kk.later (p1.trans p2)⟩
theorem c_callk0 (o : Okx G k X) {f x : Str} {zs : Exs} {ks : List Str} {kws : List Keyword} {p pos : Pos} (hx : bs f = x) (hg : Gl X x) (hdb : (x == ("__debug__" : Str)) = false) (hk : kws.map (·.arg) = ks.map some)
    (hl : ∀ r s us s', evEs G zs r s = some (us, s') → us.length = ks.length) (hz : PK X kws (TIa X.K X.mg (evEs G zs))) : PEi G X (.Call (.Name x p) [] kws pos) (.callk f .nil ks zs) := by
  subst hx
  refine ⟨fun pins s σ H Q I h => ?_⟩
  obtain ⟨g, r, st, v, s', R, e1, kk⟩ := h
  rw [evE, evEs, bnd_some] at e1
  obtain ⟨us, s2, e3, e1⟩ := bnd_eq e1
  have hul := hl _ _ _ _ e3
  obtain ⟨fa, fd, ps, is, ws, dV, dv, dd, hm, hkp, F, hdv, hdd, ht, hrun, hb⟩ := o.runk f [] ks us s2 v s' e1 hul
  obtain ⟨k1, k2, k3⟩ := kw_all (pos := pos) (env := X.env) hk
  have hpl : ((backTo pos (starEach [] X.env)).any (·.1) || (backToKw pos (keywordEach kws X.env)).any (·.1.isNone)) = false := by rw [k3]; rfl
  refine wpAny_Call_Name_kw (ld_glob I hg hm ?_ hdb)
  refine PySem.W.callWith_KW0 (h₀ := X.base) I.ok.mod.kin hkp k1 ?_ hpl
  refine thn (hz.run pos pins s σ H (fun zs H2 => ∃ g2, RlS X.K X.mg g2 s2 H2 ∧ Stp g H g2 H2 ∧ RepVs X.K g2 zs us) I ⟨g, r, st, us, s2, R, e3, fun g2 ws H2 R2 p2 r2 => ⟨g2, R2, p2, r2⟩⟩) fun wv t2 ⟨zs, H2, I2, rz, g2, R2, p2, r2⟩ => ⟨I2.kIn, ?_⟩
  rw [k2]
  have hdd2 : DpAll X.K g2.F dV dd := dpAll_same (fun a o z => by cases z) hdd
  obtain ⟨zV, hzV, rzV⟩ := takeK_rep (RepVs.append (RepVs.ofData hdd2) r2) ht
  obtain ⟨zv, hzv, rzv⟩ := takeK_vals (vals_app hdv rz) hzV
  refine run_k (vs := []) o F I2 .nil rzv (hb _ [] wv zv I2.kIn rfl (by rw [← rz.length, r2.length, hul]) hzv) ?_
  exact ⟨g2, s2, [] ++ ws, v, s', R2, by rw [List.nil_append, List.nil_append]; exact rzV, hrun, kk.later p2⟩
end
end MP

/-! MP8b: methods of a text that change nothing. -/
namespace MP
open PySem PySem.Spec PyProof.Rows L2 RZ
section
variable {G : Cn} {k : Nat} {X : Cx}
/-- sep.join(texts) -/
def rJoinV (K : PySem.W.Frag) (mg : Str → Option Value) : V → List V → Hp → VK → Prop := fun x xs H Q => ∃ g s a vs v, RlS K mg g s H ∧ RepV K g x (.d (.str a)) ∧ RepVs K g xs vs ∧ smv .join s (.d (.str a)) vs = some v ∧ Want K mg g H s v Q
theorem join_ok : MtR X "str.join" (rJoinV X.K X.mg) := by
  intro pins s σ H x xs v us Q I rx rs h
  obtain ⟨g, st, a, vs, w, R, ra, rv, e, kk⟩ := h
  refine mt_join pins s σ H x xs v us Q I rx rs ?_
  have ex := rel_str ra
  subst ex
  unfold smv at e
  split at e
  rotate_left
  · cases e
  rename_i sep u hx
  cases hx
  split at e
  rotate_left
  · cases e
  rename_i tt ds hfl
  split at e
  rotate_left
  · cases e
  rename_i ys hys
  split at e
  rotate_left
  · cases e
  rename_i hsz
  cases e
  obtain ⟨w1, rfl, r1⟩ := reps1 rv
  have hsz' : (ys.map (·.length)).sum + ys.length * a.length ≤ 16777216 := by
    have : sizeLine = 16777216 := by decide
    rw [this, Nat.mul_comm] at hsz
    exact hsz
  cases tt with
  | false =>
    obtain ⟨p, zs, rfl, q1, q2⟩ := flat_list hfl R r1
    have e3 := strs_eq q2 hys
    subst e3
    exact ⟨a, p, ys, rfl, rfl, .inl q1, hsz', kk.go R (rep_str _)⟩
  | true =>
    obtain ⟨p, zs, rfl, q1, q2⟩ := flat_tup hfl R r1
    have e3 := strs_eq q2 hys
    subst e3
    exact ⟨a, p, ys, rfl, rfl, .inr q1, hsz', kk.go R (rep_str _)⟩
theorem c_join {o : Ex} {as : Exs} {eo e : Expr} {es : List Expr} {apos pos : Pos} (hb : notSuper eo = true) (hs : stars (e :: es) = true) (hl : (e :: es).length < 30) (hline : (apos.endLine == pos.line) = true) (ho : PEi G X eo o) (ha : PAi G X (e :: es) as) :
    PEi G X (.Call (.Attribute eo "join" apos) (e :: es) [] pos) (.sm .join o as) := by
  have hs' : notStar e = true ∧ stars es = true := by simpa [stars] using hs
  refine PE.imp (pe_bm PySem.F.plainAttrs_str PySem.F.slot_str_join PySem.F.type_str_join join_ok ho ha (base_of hb) (few_of hs hl) hline (star_of hs'.1) (backTo_any hs'.2)) fun σ H Q h => ?_
  obtain ⟨g, r, s, v, s', R, e, k⟩ := h
  rw [evE] at e
  obtain ⟨x, s1, e1, e⟩ := bnd_eq e
  obtain ⟨vs, s2, e2, e⟩ := bnd_eq e
  split at e
  rotate_left
  · cases e
  rename_i w hw
  cases e
  obtain ⟨a, rfl⟩ : ∃ a, x = .d (.str a) := by
    unfold smv at hw
    split at hw
    · exact ⟨_, rfl⟩
    · cases hw
  refine ⟨g, r, s, _, s1, R, e1, fun g1 w1 H1 R1 p1 r1 => ⟨?_, g1, r, s1, vs, _, ⟨R1, p1.sl R.env⟩, e2, fun g2 ws H2 R2 p2 r2 => ?_⟩⟩
  · have := rel_str r1
    subst this
    rfl
  · exact ⟨g2, _, a, vs, _, R2, p2.rep r1, r2, hw, k.later (p1.trans p2)⟩
end
end MP

/-! MP8c: comprehensions with two fors, max with a default. -/
namespace MP
open PySem PySem.Spec PyProof.Rows L2 RZ PySem.W
section
variable {G : Cn} {k : Nat} {X : Cx}
theorem sl_le {K : PySem.W.Frag} {g g' : Gh} {σ : L2.St} {r : Nv} (e : Same g.F g'.F) (p : g.ph <+: g'.ph) (h : Sl K g σ r) : Sl K g' σ r := ⟨h.1, fun i x q => let ⟨v, h1, h2⟩ := h.2 i x q; ⟨v, h1, repV_le e p h2⟩⟩
theorem read_comp2 {own own1 : List Nat} {tg tg1 : Tg} {it it1 : MP.It} {e : Ex} {ownN : List (Str × Nat)} (hown : ownN.map (·.2) = own) (htg : ∀ i ∈ tgIx tg, i ∈ own) (htg1 : ∀ i ∈ tgIx tg1, i ∈ own1) {σ : L2.St} {H : Hp} {Q : VK} (h : TIe X.K X.mg (evE G (.comp2 own own1 tg it tg1 it1 e)) σ H Q) :
    tLc2 (TIw X.K X.mg (evI G it)) (gR X.K X.mg tg) (TIt X.K X.mg (evC G .no)) (TIw X.K X.mg (evI G it1)) (gR X.K X.mg tg1) (TIt X.K X.mg (evC G .no)) (TIe X.K X.mg (evE G e)) (ownN.map (·.2)) own1 σ H Q := by
  obtain ⟨g, r, s, v, s', R, e1, k⟩ := h
  rw [evE] at e1
  obtain ⟨w, s1, e2, e1⟩ := bnd_eq e1
  obtain ⟨vs, s2, e3, e1⟩ := bnd_eq e1
  split at e1
  · rename_i hsz
    rw [hown]
    refine ⟨g, r, s, w, s1, R, e2, fun g1 J H1 R1 p1 wk D hD => ?_⟩
    have hDF : g1.F D = none := R1.fro.free hD
    have hDp : D ∉ g1.ph := fun q => R1.there q hD
    generalize hinn : (fun r1 s => bnd (evI G it1 r1 s) fun w1 s1 => turnsC w1.2 (fun v => bindT tg1 v (wipeN r1 own1)) yes (evE G e) w1.1 s1) = inn at e3
    refine ⟨fun i m H' => m = w.1.length - i ∧ i ≤ w.1.length ∧ ∃ gg st acc xs rest, RlS X.K X.mg gg st H' ∧ Stp g1 H1 gg H' ∧ H' D = some (.lst xs) ∧ D ∉ gg.ph ∧ gg.F D = none ∧ RepVs X.K gg xs acc ∧
        turns2 w.2 (fun v => bindT tg v (wipeN r own)) inn (w.1.drop i) st = some (rest, s2) ∧ vs = acc ++ rest,
      ⟨w.1.length, by simp, Nat.zero_le _, g1, s1, [], [], vs, R1.grow (same_new hD), Stp.grow (same_new hD), upd_same, hDp, hDF, .nil, by simpa using e3, by simp⟩, ?_⟩
    rintro i m H2 ⟨rfl, hle, gg, st, acc, xs, rest, R2, p2, hx, hp, hF, ra, et, ev⟩
    by_cases hlt : i < w.1.length
    · obtain ⟨x, hx0⟩ : ∃ x, w.1[i]? = some x := ⟨w.1[i], List.getElem?_eq_getElem hlt⟩
      have hdrop : w.1.drop i = x :: w.1.drop (i + 1) := by
        rw [List.drop_eq_getElem_cons hlt]
        rw [List.getElem?_eq_getElem hlt] at hx0
        cases hx0
        rfl
      rw [hdrop] at et
      unfold turns2 at et
      split at et
      · rename_i hok
        obtain ⟨r1, b1, et⟩ := Option.bind_eq_some_iff.mp et
        obtain ⟨xs1, sa, ei, et⟩ := bnd_eq et
        obtain ⟨ys, sb, er, et⟩ := bnd_eq et
        have ers : xs1 ++ ys = rest ∧ sb = s2 := by cases et; exact ⟨rfl, rfl⟩
        obtain ⟨ers, rfl⟩ := ers
        rw [← hinn] at ei
        obtain ⟨w1, sw, ew, ei⟩ := bnd_eq ei
        obtain ⟨q1, q2⟩ := wk.go gg st H2 i x p2.fr p2.pre R2 (okGb_ok hok) hx0
        refine .inr ⟨q1, fun H' => ∃ gg st acc xs rest, RlS X.K X.mg gg st H' ∧ Stp g1 H1 gg H' ∧ H' D = some (.lst xs) ∧ D ∉ gg.ph ∧ gg.F D = none ∧ RepVs X.K gg xs acc ∧
          turns2 w.2 (fun v => bindT tg v (wipeN r own)) inn (w.1.drop (i + 1)) st = some (rest, sb) ∧ vs = acc ++ rest, fun H' hh => ⟨_, by omega, rfl, by omega, hh⟩, fun y H5 hy => ?_⟩
        obtain ⟨g5, R5, p5, ry⟩ := q2 y H5 hy
        refine ⟨g5, wipeN r own, st, x, r1, ⟨R5, (p1.trans (p2.trans p5)).sl (sl_wipe R.env own)⟩, ry, b1, fun σ' l' ch' => ⟨?_, ?_⟩⟩
        · rw [Ch.wipe htg ch']
          exact Ch.wipe (fun _ h => h) (wipe_ch σ own)
        obtain ⟨hx5, hp5, hF5⟩ := p5.stay hx hp hF
        refine ⟨g5, r1, st, true, st, ⟨R5, l'⟩, by rw [evC], fun g6 H6 R6 p6 => iteT ⟨g6, r1, st, w1, sw, ⟨R6, p6.sl l'⟩, ew, fun g7 J1 H7 R7 p7 wk1 => ?_⟩⟩
        obtain ⟨hx7, hp7, hF7⟩ := (p6.trans p7).stay hx5 hp5 hF5
        have p17 := p2.trans (p5.trans (p6.trans p7))
        refine ⟨fun j m H' => m = w1.1.length - j ∧ j ≤ w1.1.length ∧ ∃ gg st acc xs rest, RlS X.K X.mg gg st H' ∧ Stp g1 H1 gg H' ∧ Same g7.F gg.F ∧ g7.ph <+: gg.ph ∧ H' D = some (.lst xs) ∧ D ∉ gg.ph ∧ gg.F D = none ∧ RepVs X.K gg xs acc ∧
            turnsC w1.2 (fun v => bindT tg1 v (wipeN r1 own1)) yes (evE G e) (w1.1.drop j) st = some (rest, sa) ∧ vs = acc ++ (rest ++ ys),
          ⟨w1.1.length, by simp, Nat.zero_le _, g7, sw, acc, xs, xs1, R7, p17, Same.refl _, List.prefix_refl _, hx7, hp7, hF7, (p5.trans (p6.trans p7)).reps ra, by simpa using ei, by rw [ev, ers]⟩, ?_⟩
        rintro j m H8 ⟨rfl, hle1, g8, st8, acc8, xs8, rest8, R8, p8, f8, f8', hx8, hp8, hF8, ra8, et8, ev8⟩
        by_cases hlt1 : j < w1.1.length
        · obtain ⟨x1, hx1⟩ : ∃ x, w1.1[j]? = some x := ⟨w1.1[j], List.getElem?_eq_getElem hlt1⟩
          have hdrop1 : w1.1.drop j = x1 :: w1.1.drop (j + 1) := by
            rw [List.drop_eq_getElem_cons hlt1]
            rw [List.getElem?_eq_getElem hlt1] at hx1
            cases hx1
            rfl
          rw [hdrop1] at et8
          unfold turnsC at et8
          split at et8
          · rename_i hok1
            obtain ⟨r2, b2, et8⟩ := Option.bind_eq_some_iff.mp et8
            unfold yes at et8
            rw [bnd_some] at et8
            simp only [] at et8
            obtain ⟨x2, sc, ex, et8⟩ := bnd_eq et8
            obtain ⟨rest2, sd, er8, et8⟩ := bnd_eq et8
            have e8 : x2 :: rest2 = rest8 ∧ sd = sa := by cases et8; exact ⟨rfl, rfl⟩
            obtain ⟨e8, rfl⟩ := e8
            obtain ⟨q3, q4⟩ := wk1.go g8 st8 H8 j x1 f8 f8' R8 (okGb_ok hok1) hx1
            refine .inr ⟨q3, fun H' => ∃ gg st acc xs rest, RlS X.K X.mg gg st H' ∧ Stp g1 H1 gg H' ∧ Same g7.F gg.F ∧ g7.ph <+: gg.ph ∧ H' D = some (.lst xs) ∧ D ∉ gg.ph ∧ gg.F D = none ∧ RepVs X.K gg xs acc ∧
              turnsC w1.2 (fun v => bindT tg1 v (wipeN r1 own1)) yes (evE G e) (w1.1.drop (j + 1)) st = some (rest, sd) ∧ vs = acc ++ (rest ++ ys), fun H' hh => ⟨_, by omega, rfl, by omega, hh⟩, fun y1 H9 hy1 => ?_⟩
            obtain ⟨g9, R9, p9, ry1⟩ := q4 y1 H9 hy1
            refine ⟨g9, wipeN r1 own1, st8, x1, r2, ⟨R9, p9.sl (sl_le f8 f8' ((p6.trans p7).sl (sl_wipe l' own1)))⟩, ry1, b2, fun σ3 l3 ch3 => ⟨?_, ?_⟩⟩
            · rw [Ch.wipe htg1 ch3]
              exact Ch.wipe (fun _ h => h) (wipe_ch σ' own1)
            obtain ⟨hx9, hp9, hF9⟩ := p9.stay hx8 hp8 hF8
            refine ⟨g9, r2, st8, true, st8, ⟨R9, l3⟩, by rw [evC], fun ga Ha Ra pa => iteT ⟨ga, r2, st8, x2, sc, ⟨Ra, pa.sl l3⟩, ex, fun gb wb Hb Rb pb rb => ?_⟩⟩
            obtain ⟨hxb, hpb, hFb⟩ := (pa.trans pb).stay hx9 hp9 hF9
            have pall := p8.trans (p9.trans (pa.trans pb))
            have p8b := p9.trans (pa.trans pb)
            refine ⟨xs8, hxb, ?_, gb, sc, acc8 ++ [x2], xs8 ++ [wb], rest2, Rb.other hpb hFb, pall.other hD, f8.trans p8b.fr, f8'.trans p8b.pre, upd_same, hpb, hFb, RepVs.append (.cons rb .nil) (p8b.reps ra8), er8, by rw [ev8, ← e8]; simp⟩
            have l1 := ra8.length
            have l2 : vs.length = acc8.length + (rest2.length + 1 + ys.length) := by rw [ev8, ← e8, List.length_append, List.length_append, List.length_cons]
            rw [sizeLine_eq]
            omega
          · cases et8
        · have hj2 : j = w1.1.length := by omega
          rw [hj2, List.drop_length] at et8
          unfold turnsC at et8
          split at et8
          · rename_i hok1
            have e8 : rest8 = [] ∧ st8 = sa := by cases et8; exact ⟨rfl, rfl⟩
            obtain ⟨rfl, rfl⟩ := e8
            exact .inl ⟨wk1.stop g8 st8 H8 j f8 f8' R8 (okGb_ok hok1) (by omega), g8, st8, acc8, xs8, ys, R8, p8, hx8, hp8, hF8, ra8, er, by rw [ev8]; simp⟩
          · cases et8
      · cases et
    · have hi2 : i = w.1.length := by omega
      rw [hi2, List.drop_length] at et
      unfold turns2 at et
      split at et
      · rename_i hok
        have est : st = s2 := by cases et; rfl
        have erest : rest = [] := by cases et; rfl
        subst est
        refine .inl ⟨wk.stop gg st H2 i p2.fr p2.pre R2 (okGb_ok hok) (by omega), ?_⟩
        rw [erest, List.append_nil] at ev
        subst ev
        have pz := p1.trans p2
        have hD0 : H D = none := by
          cases q : H D with
          | none => rfl
          | some u =>
            have hm : D ∉ g.ph := fun z => hDp (p1.pre.subset z)
            have := p1.sub D u q hm
            rw [hD] at this
            cases this
        unfold newL at e1
        rw [if_pos rfl] at e1
        cases h5 : allD vs with
        | none => rw [h5] at e1; cases e1
        | some ds =>
          rw [h5] at e1
          cases e1
          have R3 := R2.froze2 hx hp hF
          refine k _ _ _ R3 ⟨pz.sub, pz.fr.trans (same_new hF), fun a ha => ?_, pz.pre, pz.nl⟩ (.d (.lst (SqL.of upd_same) (dpAll_same (same_new hF) (ra.data h5))))
          by_cases hz : a = D
          · exact .inr (.inl (hz ▸ hD0))
          · have ha' : upd gg.F D (.lst xs) a ≠ none := ha
            rw [upd_ne hz] at ha'
            exact pz.nf a ha'
      · cases et
  · cases e1
theorem c_comp2 (o : Okx G k X) {own own1 : List Nat} {tg tg1 : Tg} {it it1 : MP.It} {e : Ex} {elt tgE iter tgE1 iter1 : Expr} {scope : Scope} {ownN : List (Str × Nat)} {pos : Pos}
    (hi : PIi G X tgE iter it) (ok : BlkOk X.N X.env.scope scope ownN) (hown : ownN.map (·.2) = own) (htg : ∀ i ∈ tgIx tg, i ∈ own) (htg1 : ∀ i ∈ tgIx tg1, i ∈ own1) (hoo : ∀ i ∈ own1, i ∈ own)
    (hg : ∀ (s : Shared) (H : Hp) (C : Addr) (cl : List (Str × Addr)) (fp : List Addr), PG (X.blk s H scope (compEnvC scope cl C X.env) fp) tgE (gR X.K X.mg tg))
    (ht : ∀ (s : Shared) (H : Hp) (C : Addr) (cl : List (Str × Addr)) (fp : List Addr), PTs (X.blk s H scope (compEnvC scope cl C X.env) fp) [] (TIt X.K X.mg (evC G .no)))
    (hi1 : ∀ (s : Shared) (H : Hp) (C : Addr) (cl : List (Str × Addr)) (fp : List Addr), PI (X.blk s H scope (compEnvC scope cl C X.env) fp) tgE1 iter1 (TIw X.K X.mg (evI G it1)))
    (hg1 : ∀ (s : Shared) (H : Hp) (C : Addr) (cl : List (Str × Addr)) (fp : List Addr), PG (X.blk s H scope (compEnvC scope cl C X.env) fp) tgE1 (gR X.K X.mg tg1))
    (he : ∀ (s : Shared) (H : Hp) (C : Addr) (cl : List (Str × Addr)) (fp : List Addr), PE (X.blk s H scope (compEnvC scope cl C X.env) fp) elt (TIe X.K X.mg (evE G e)))
    (hs : ∀ x, foldedSetIterable iter X.env x = pure x) (hs1 : ∀ env x, foldedSetIterable iter1 env x = pure x) : PEi G X (.ListComp elt [⟨tgE, iter, [], 0⟩, ⟨tgE1, iter1, [], 0⟩] scope pos) (.comp2 own own1 tg it tg1 it1 e) := by
  exact PE.imp (pe_lc2 (vs1 := own1) o.calm o.nd hi ok (by rw [hown]; exact hoo) hg ht hi1 hg1 ht he hs hs1) fun σ H Q h => read_comp2 hown htg htg1 h
theorem c_pts0 : PTs X [] (TIt X.K X.mg (evC G .no)) := by
  refine ⟨fun pins s σ H Q I q => (pts_nil (X := X)).run pins s σ H Q I ?_⟩
  obtain ⟨g, r, st, b, s', R, e, k⟩ := q
  rw [evC] at e
  cases e
  exact k g H R.st (Stp.refl _ _)
/-! max with a default -/
theorem maxOf_maxI : ∀ (ys : List Int) (x : Int), maxOf x ys = maxI (x :: ys)
  | [], x => rfl
  | y :: ys, x => by
    have e : maxOf x (y :: ys) = maxOf (if x < y then y else x) ys := by
      show List.foldl _ (if decide (x < y) = true then y else x) ys = _
      simp only [decide_eq_true_eq]
      rfl
    rw [e, maxOf_maxI ys]
    cases ys with
    | nil =>
      show (if x < y then y else x) = max x y
      split <;> omega
    | cons z zs =>
      show max (if x < y then y else x) (maxI (z :: zs)) = max x (max y (maxI (z :: zs)))
      split <;> omega
theorem hold_ints {h : Heap} : ∀ {vs : List Value} {ns : List Int}, IntsAre vs ns → HoldAll h vs ns
  | _, _, .nil => HoldAll.nil
  | _, _, .cons n t r => HoldAll.cons ⟨_, .int n t⟩ (hold_ints r)
theorem c_maxD (o : Okx G k X) {a b : Ex} {e dv : Expr} {p pos kp : Pos} (hg : Gl X "max") (hs : notStar e = true) (ha : PAi G X [e] (.cons a .nil)) (hz : PK X [⟨some "default", dv, kp⟩] (TIa X.K X.mg (evEs G (.cons b .nil)))) :
    PEi G X (.Call (.Name "max" p) [e] [⟨some "default", dv, kp⟩] pos) (.maxD a b) := by
  refine ⟨fun pins s σ H Q I h => ?_⟩
  obtain ⟨g, r, st, v, s', R, e1, kk⟩ := h
  rw [evE] at e1
  obtain ⟨x, s1, e2, e1⟩ := bnd_eq e1
  obtain ⟨y, s2, e3, e1⟩ := bnd_eq e1
  have hm := o.blt "max" (by decide +kernel)
  obtain ⟨k1, k2, k3⟩ := kw_all (pos := pos) (env := X.env) (kws := [⟨some "default", dv, kp⟩]) (ks := ["default"]) rfl
  have ea : evEs G (.cons a .nil) r st = some ([x], s1) := by rw [evEs, e2, bnd_some, evEs, bnd_some]
  have eb : evEs G (.cons b .nil) r s1 = some ([y], s2) := by rw [evEs, e3, bnd_some, evEs, bnd_some]
  refine wpAny_Call_Name_kw (ld_blt I hg hm (bi_boot .maxL) ?_)
  refine PyProof.Rows.callWith_kw (thn (ha.run pos pins s σ H (fun vs H1 => ∃ g1, RlS X.K X.mg g1 s1 H1 ∧ Stp g H g1 H1 ∧ RepVs X.K g1 vs [x]) I ⟨g, r, st, [x], s1, R, ea, fun g1 ws H1 R1 p1 r1 => ⟨g1, R1, p1, r1⟩⟩) fun uv t1 ⟨vs, H1, I1, rv, g1, R1, p1, r1⟩ => ?_)
    (by rw [star_of hs] <;> rfl) (backTo_any (by simp [stars, hs])) k1 k3
  refine thn (hz.run pos pins t1 σ H1 (fun zs H2 => ∃ g2, RlS X.K X.mg g2 s2 H2 ∧ Stp g1 H1 g2 H2 ∧ RepVs X.K g2 zs [y]) I1 ⟨g1, r, s1, [y], s2, ⟨R1, p1.sl R.env⟩, eb, fun g2 ws H2 R2 p2 r2 => ⟨g2, R2, p2, r2⟩⟩) fun wv t2 ⟨zs, H2, I2, rz, g2, R2, p2, r2⟩ => ?_
  rw [k2]
  obtain ⟨w, rfl, rw1⟩ := reps1 (p2.reps r1)
  obtain ⟨z, rfl, rz1⟩ := reps1 r2
  obtain ⟨xs, kx, hfl, rfl, e5⟩ : ∃ xs kx, flat s2 x = some (false, xs) ∧ y = .d (.int kx) ∧ (match intsOf xs with
      | some [] => some (Vl.d (.int kx), s2)
      | some (n :: ns) => some (Vl.d (.int (maxI (n :: ns))), s2)
      | none => none) = some (v, s') := by
    split at e1
    · exact ⟨_, _, ‹_›, rfl, e1⟩
    · cases e1
  obtain ⟨pa, zs, rfl, q1, q2⟩ := flat_list hfl R2 rw1
  have ez := rel_int (u := .none) rz1
  subst ez
  cases hints : intsOf xs with
  | none => rw [hints] at e5; cases e5
  | some ns =>
    rw [hints] at e5
    have e4 := ints_eq q2 hints
    subst e4
    obtain ⟨its, rv', hl, _⟩ := I2.list q1
    rw [Vals.ref1 rv]
    obtain ⟨u0, rfl, ru⟩ := rz.one
    obtain ⟨tt, rfl⟩ := ru
    show wpAny _ X.A (call (.builtin "max") [.ref pa] [(Str.ofString "default", Value.int kx tt)]) _ _ t2
    have kz := kk.later (p1.trans p2)
    refine max_list_datum_default (α := Int) (xs := ns) (I2.ok.hd o.calm) hl.isList (hold_ints rv'.ints) (by have := o.un; show X.A.units + 1 + 0 < _; omega) (fun e0 h' tk hk => ?_) fun y ys i u h' tk e0 _ hh hk => ?_
    · subst e0
      cases e5
      exact ⟨.int kx, H2, I2.kept hk, ⟨_, rfl⟩, kz.go R2 (rep_int _)⟩
    · subst e0
      cases e5
      obtain ⟨as, rr⟩ := hh
      have er : ∃ t, u = .int (maxI (y :: ys)) t := by
        rw [← maxOf_maxI]
        cases rr
        exact ⟨_, rfl⟩
      obtain ⟨t, rfl⟩ := er
      exact ⟨.int _, H2, I2.kept hk, ⟨_, rfl⟩, kz.go R2 (rep_int _)⟩
end
end MP

/-! MP9: the check that a syntax fits, and that what fits is what is computed: expressions. -/
namespace MP
open PySem PySem.Spec PyProof.Rows L2 RZ

/-- an expression whose truth is its value's -/
def tstB : Expr → Bool
  | .Name _ _ => true
  | .Call _ _ _ _ => true
  | .Attribute _ _ _ => true
  | .Subscript _ _ _ => true
  | .Compare _ _ _ _ => true
  | .BoolOp _ _ _ => true
  | .UnaryOp .Not _ _ => true
  | .Constant _ _ _ => true
  | _ => false
def plnB : Expr → Bool
  | .Compare _ _ _ _ => false
  | .BoolOp _ _ _ => false
  | .UnaryOp _ _ _ => false
  | _ => true
def cstB : PyData → Const → Bool
  | .int i, .int j => i == j
  | .bool i, .bool j => i == j
  | .str i, .str j => i == j
  | .none, .none => true
  | _, _ => false
def boB : Bool → BoolOp → Bool
  | true, .And => true
  | false, .Or => true
  | _, _ => false
def ownOf (N : List Str) (own : List Nat) : List (Str × Nat) := own.map fun i => (N.getD i Str.empty, i)
def lmF : Lm → Str
  | .append => "append"
  | .extend => "extend"
  | .pop => "pop"
  | .popAt => "pop"
  | .reverse => "reverse"
  | .clear => "clear"
def lm1B : Lm → Bool
  | .append => true
  | .extend => true
  | .popAt => true
  | _ => false
def lm0B : Lm → Bool
  | .pop => true
  | .reverse => true
  | .clear => true
  | _ => false

section
variable (con : Str → Option PyData) (N : List Str)
mutual
def chE (sc : Scope) : Ex → Expr → Bool
  | .var i, e => match e with
    | .Name x _ => N[i]? == some x && visB sc x && x != "__debug__" && x != "__classdict__"
    | _ => false
  | .cst x, e => match e with
    | .Constant c _ _ => cstB x c
    | _ => false
  | .glb x, e => match e with
    | .Name y _ => x == y && glB sc x && (con x).isSome
    | _ => false
  | .inD a x, e => match e with
    | .Compare l [.In] [.Name y _] _ => x == y && glB sc x && (match con x with | some (.dict _) => true | _ => false) && chE sc a l
    | _ => false
  | .ixD x a, e => match e with
    | .Subscript (.Name y _) r _ => x == y && glB sc x && (match con x with | some (.dict _) => true | _ => false) && notSlice r && chE sc a r
    | _ => false
  | .catS a b, e => match e with
    | .BinOp l .Add r _ => chE sc a l && chE sc b r
    | _ => false
  | .skS a, e => match e with
    | .Subscript b (.Slice none none (some (.UnaryOp .USub (.Constant (.int 1) _ _) _)) _) _ => chE sc a b
    | _ => false
  | .o1 o a, e => match o, e with
    | .neg, .UnaryOp .USub b _ => chE sc a b
    | .isN, .Compare b [.Is] [.Constant .none _ _] _ => chE sc a b
    | .noN, .Compare b [.IsNot] [.Constant .none _ _] _ => chE sc a b
    | _, _ => false
  | .o2 p a b, e => match e with
    | .BinOp l op r _ => opB p op && chE sc a l && chE sc b r
    | .Compare l [op] [r] _ => opC p op && notSet r && chE sc a l && chE sc b r
    | .Subscript l r _ => p == .idx && notSlice r && chE sc a l && chE sc b r
    | _ => false
  | .bop c as, e => match e with
    | .BoolOp op es _ => boB c op && chBs sc as es
    | _ => false
  | .not_ a, e => match e with
    | .UnaryOp .Not b _ => tstB b && chE sc a b
    | _ => false
  | .ite c a b, e => match e with
    | .IfExp x y z _ => tstB x && chE sc c x && chE sc a y && chE sc b z
    | _ => false
  | .chain p q a b c, e => match e with
    | .Compare x [op, op'] [y, z] _ => opC p op && opC q op' && notSet z && chE sc a x && chE sc b y && chE sc c z
    | _ => false
  | .bi f as, e => match e with
    | .Call (.Name x _) (d :: ds) [] _ => x == biN f && glB sc x && stars (d :: ds) && chEs sc as (d :: ds)
    | _ => false
  | .isi a ts, e => match e with
    | .Call (.Name x _) [d, t] [] _ => x == "isinstance" && glB sc x && notStar d && isiB sc ts t && chE sc a d
    | _ => false
  | .call f as, e => match e with
    | .Call (.Name x _) ds [] _ => !ko f && bs f == x && glB sc x && stars ds && chEs sc as ds
    | _ => false
  | .tup as, e => match e with
    | .Tuple ds _ _ => decide (ds.length ≤ 1000) && stars ds && chEs sc as ds
    | _ => false
  | .lst _ as, e => match e with
    | .List ds _ => decide (ds.length ≤ 1000) && stars ds && chEs sc as ds
    | _ => false
  | .sl a lo hi, e => match e with
    | .Subscript b (.Slice l h none _) _ => chE sc a b && chO sc lo l && chO sc hi h
    | _ => false
  | .sk k a, e => match k, e with
    | .rev, .Subscript b (.Slice none none (some (.UnaryOp .USub (.Constant (.int 1) _ _) _)) _) _ => chE sc a b
    | .even, .Subscript b (.Slice none none (some (.Constant (.int 2) _ _)) _) _ => chE sc a b
    | .odd, .Subscript b (.Slice (some (.Constant (.int 1) _ _)) none (some (.Constant (.int 2) _ _)) _) _ => chE sc a b
    | _, _ => false
  | .comp _ own tg it c el, e => match e with
    | .ListComp elt [⟨tgE, iter, ifs, asy⟩] scope _ => asy == 0 && blkC N sc scope (ownOf N own) && (tgIx tg).all (fun i => own.contains i) && notSet iter && chI sc tgE it iter &&
        chT N (relS scope sc) true tg tgE && chC (relS scope sc) c ifs && chE (relS scope sc) el elt
    | _ => false
  | .lm m o as, e => match e with
    | .Call (.Attribute b name apos) ds [] pos => name == lmF m && notSuper b && apos.endLine == pos.line && stars ds && decide (ds.length < 30) && (if ds.isEmpty then lm0B m && as.isNil else lm1B m) && chE sc o b && chEs sc as ds
    | _ => false
  | .frz a, e => plnB e && chE sc a e
  | .comp2 own own1 tg it tg1 it1 el, e => match e with
    | .ListComp elt [⟨tgE, iter, [], asy⟩, ⟨tgE1, iter1, [], asy1⟩] scope _ => asy == 0 && asy1 == 0 && blkC N sc scope (ownOf N own) && (tgIx tg).all (fun i => own.contains i) && (tgIx tg1).all (fun i => own1.contains i) && own1.all (fun i => own.contains i) && notSet iter && notSet iter1 && chI sc tgE it iter &&
        chT N (relS scope sc) true tg tgE && chI (relS scope sc) tgE1 it1 iter1 && chT N (relS scope sc) true tg1 tgE1 && chE (relS scope sc) el elt
    | _ => false
  | .maxD a b, e => match e with
    | .Call (.Name x _) [d] [⟨some kw, dv, _⟩] _ => x == "max" && kw == "default" && glB sc x && notStar d && chE sc a d && chE sc b dv
    | _ => false
  | .callk f as ks zs, e => match e with
    | .Call (.Name x _) ds kws _ => bs f == x && glB sc x && stars ds && kws.map (·.arg) == ks.map some && chEs sc as ds && chEs sc zs (kws.map (·.value))
    | _ => false
  | .mk _ _, _ => false
  | .meth _ _ _, _ => false
  | .fld _ _, _ => false
  | .sm m o as, e => match m, e with
    | .join, .Call (.Attribute b name apos) (d :: ds) [] pos => name == "join" && notSuper b && apos.endLine == pos.line && stars (d :: ds) && decide ((d :: ds).length < 30) && chE sc o b && chEs sc as (d :: ds)
    | _, _ => false
def chEs (sc : Scope) : Exs → List Expr → Bool
  | .nil, es => es.isEmpty
  | .cons a as, es => match es with
    | e :: es => chE sc a e && chEs sc as es
    | [] => false
/-- the parts of and, or -/
def chBs (sc : Scope) : Exs → List Expr → Bool
  | .nil, _ => false
  | .cons a as, es => match es with
    | e :: es => tstB e && chE sc a e && (if es.isEmpty then as.isNil else chBs sc as es)
    | [] => false
def chO (sc : Scope) : Ox → Option Expr → Bool
  | .no, e => e.isNone
  | .so a, e => match e with
    | some e => chE sc a e
    | none => false
def chC (sc : Scope) : Ox → List Expr → Bool
  | .no, es => es.isEmpty
  | .so a, es => match es with
    | [e] => tstB e && chE sc a e
    | _ => false
def chI (sc : Scope) (tg : Expr) : It → Expr → Bool
  | .seq a, e => chE sc a e
  | .rng1 a, e => match e with
    | .Call (.Name x _) [d] [] _ => x == "range" && glB sc x && notStar d && chE sc a d
    | _ => false
  | .rng2 a b, e => match e with
    | .Call (.Name x _) [d, f] [] _ => x == "range" && glB sc x && notStar d && notStar f && chE sc a d && chE sc b f
    | _ => false
  | .rng3 _ _ _, _ => false
  | .zip a b, e => match e, tg with
    | .Call (.Name x _) [d, f] [] _, .Tuple _ _ _ => x == "zip" && glB sc x && notStar d && notStar f && chE sc a d && chE sc b f
    | _, _ => false
  | .enum a, e => match e, tg with
    | .Call (.Name x _) [d] [] _, .Tuple _ _ _ => x == "enumerate" && glB sc x && notStar d && chE sc a d
    | _, _ => false
  | .rev a, e => match e with
    | .Call (.Name x _) [d] [] _ => x == "reversed" && glB sc x && notStar d && chE sc a d
    | _ => false
end
end

section
variable {G : Cn} {k : Nat} {N : List Str}
theorem evEs_len : ∀ (as : Exs) {es : List Expr} {con : Str → Option PyData} {sc : Scope}, chEs con N sc as es = true → ∀ r s vs s', evEs G as r s = some (vs, s') → vs.length = es.length
  | .nil, es, con, sc, h, r, s, vs, s', e => by
    rw [chEs] at h
    rw [evEs] at e
    cases e
    cases es with
    | nil => rfl
    | cons a b => simp at h
  | .cons a as, es, con, sc, h, r, s, vs, s', e => by
    rw [evEs] at e
    obtain ⟨x, s1, e1, e⟩ := bnd_eq e
    obtain ⟨xs, s2, e2, e⟩ := bnd_eq e
    cases e
    cases es with
    | nil => simp [chEs] at h
    | cons d ds =>
      simp only [chEs, Bool.and_eq_true] at h
      simp [evEs_len as h.2 _ _ _ _ e2]

/-- where the check was made -/
structure At (G : Cn) (k : Nat) (N : List Str) (sc : Scope) (X : Cx) : Prop where
  ok : Okx G k X
  hN : X.N = N
  hs : X.env.scope = sc
theorem At.blk {sc scope : Scope} {X : Cx} (a : At G k N sc X) (s : Shared) (H : Hp) (C : Addr) (cl : List (Str × Addr)) (fp : List Addr) : At G k N (relS scope sc) (X.blk s H scope (compEnvC scope cl C X.env) fp) :=
  ⟨⟨a.ok.calm, a.ok.nd, a.ok.gu, a.ok.room, a.ok.con, a.ok.blt, a.ok.run, a.ok.runk⟩, a.hN, by
    show (compEnvC scope cl C X.env).scope = _
    rw [← a.hs] <;> rfl⟩

theorem default_test {X : Cx} {e : Expr} {p : Ex} (h : PEi G X e p) (ht : tstB e = true) (h1 : ∀ a b c d, e ≠ .Compare a b c d) (h2 : ∀ a b c, e ≠ .BoolOp a b c) (h3 : ∀ a b, e ≠ .UnaryOp .Not a b) : PTi G X e p := by
  refine pt_of h ?_
  cases e <;> first
    | exact fun _ => rfl
    | exact absurd rfl (h1 _ _ _ _)
    | exact absurd rfl (h2 _ _ _)
    | exact absurd ht (by simp [tstB])
    | (rename_i op b c; cases op <;> first | exact absurd rfl (h3 _ _) | exact absurd ht (by simp [tstB]))

mutual
theorem sndE : ∀ (p : Ex) (e : Expr) {sc : Scope} {X : Cx}, At G k N sc X → chE G.con N sc p e = true → PEi G X e p ∧ (tstB e = true → PTi G X e p)
  | .var i, e, sc, X, A, h => by
    unfold chE at h
    split at h
    · rename_i x pos
      simp only [Bool.and_eq_true, beq_iff_eq, bne_iff_ne] at h
      obtain ⟨⟨⟨h1, h2⟩, h3⟩, h4⟩ := h
      have pe : PEi G X (.Name x pos) (.var i) := c_var (N := N) (by rw [A.hN]; exact h1) (by rw [A.hs]; exact visB_ok h2) (by simpa using h3) (by simpa using h4)
      exact ⟨pe, fun ht => default_test pe ht (by intros; simp) (by intros; simp) (by intros; simp)⟩
    · cases h
  | .cst x, e, sc, X, A, h => by
    unfold chE at h
    split at h
    · rename_i c kk pos
      have pe : PEi G X (.Constant c kk pos) (.cst x) := by
        cases x <;> cases c <;> simp only [cstB] at h <;> first
          | exact c_cst pe_non fun _ => .non
          | (exact absurd h (by decide))
          | (have h := eq_of_beq h; subst h; exact c_cst pe_int fun _ => .int _)
          | (have h := eq_of_beq h; subst h; exact c_cst pe_bl fun _ => .bl _)
          | (have h := eq_of_beq h; subst h; exact c_cst pe_str fun _ => .str _)
      exact ⟨pe, fun ht => default_test pe ht (by intros; simp) (by intros; simp) (by intros; simp)⟩
    · cases h
  | .glb x, e, sc, X, A, h => by
    unfold chE at h
    split at h
    · rename_i y pos
      simp only [Bool.and_eq_true, beq_iff_eq] at h
      obtain ⟨⟨h1, h2⟩, h3⟩ := h
      subst h1
      obtain ⟨d, hd⟩ := Option.isSome_iff_exists.mp h3
      obtain ⟨q1, q2, q3⟩ := glB_ok A.hs h2
      have pe : PEi G X (.Name x pos) (.glb x) := c_glb A.ok hd q1 q2
      exact ⟨pe, fun ht => default_test pe ht (by intros; simp) (by intros; simp) (by intros; simp)⟩
    · cases h
  | .inD a x, e, sc, X, A, h => by
    unfold chE at h
    split at h
    · rename_i l y p pos
      simp only [Bool.and_eq_true, beq_iff_eq] at h
      obtain ⟨⟨⟨h1, h2⟩, h3⟩, h4⟩ := h
      subst h1
      split at h3
      · rename_i kvs hd
        obtain ⟨q1, q2, q3⟩ := glB_ok A.hs h2
        obtain ⟨w1, w2⟩ := c_inD (pos := pos) (p := p) A.ok hd q1 q2 (sndE a l A h4).1
        exact ⟨w1, fun _ => w2⟩
      · cases h3
    · cases h
  | .ixD x a, e, sc, X, A, h => by
    unfold chE at h
    split at h
    · rename_i y p r pos
      simp only [Bool.and_eq_true, beq_iff_eq] at h
      obtain ⟨⟨⟨⟨h1, h2⟩, h3⟩, h5⟩, h4⟩ := h
      subst h1
      split at h3
      · rename_i kvs hd
        obtain ⟨q1, q2, q3⟩ := glB_ok A.hs h2
        have pe := c_ixD (pos := pos) (p := p) A.ok h5 hd q1 q2 (sndE a r A h4).1
        exact ⟨pe, fun ht => default_test pe ht (by intros; simp) (by intros; simp) (by intros; simp)⟩
      · cases h3
    · cases h
  | .catS a b, e, sc, X, A, h => by
    unfold chE at h
    split at h
    · simp only [Bool.and_eq_true] at h
      exact ⟨c_catS (sndE a _ A h.1).1 (sndE b _ A h.2).1, fun ht => by simp [tstB] at ht⟩
    · cases h
  | .skS a, e, sc, X, A, h => by
    unfold chE at h
    split at h
    · have pe := fun kk p1 p2 p3 pos => c_skS (G := G) (kk := kk) (p1 := p1) (p2 := p2) (p3 := p3) (pos := pos) (sndE a _ A h).1
      exact ⟨pe _ _ _ _ _, fun ht => default_test (pe _ _ _ _ _) ht (by intros; simp) (by intros; simp) (by intros; simp)⟩
    · cases h
  | .o1 o a, e, sc, X, A, h => by
    unfold chE at h
    split at h
    · exact ⟨c_neg (sndE a _ A h).1, fun ht => by simp [tstB] at ht⟩
    · obtain ⟨q1, q2⟩ := c_isN (sndE a _ A h).1
      exact ⟨q1, fun _ => q2⟩
    · obtain ⟨q1, q2⟩ := c_noN (sndE a _ A h).1
      exact ⟨q1, fun _ => q2⟩
    · cases h
  | .o2 p a b, e, sc, X, A, h => by
    unfold chE at h
    split at h
    · simp only [Bool.and_eq_true] at h
      obtain ⟨⟨h1, h2⟩, h3⟩ := h
      exact ⟨c_bin h1 (sndE a _ A h2).1 (sndE b _ A h3).1, fun ht => by simp [tstB] at ht⟩
    · simp only [Bool.and_eq_true] at h
      obtain ⟨⟨⟨h1, h2⟩, h3⟩, h4⟩ := h
      obtain ⟨q1, q2⟩ := c_cmp A.ok h1 h2 (sndE a _ A h3).1 (sndE b _ A h4).1
      exact ⟨q1, fun _ => q2⟩
    · simp only [Bool.and_eq_true, beq_iff_eq] at h
      obtain ⟨⟨⟨h1, h2⟩, h3⟩, h4⟩ := h
      subst h1
      rename_i l r pos
      have pe := c_ix (G := G) (X := X) (pos := pos) h2 (sndE a _ A h3).1 (sndE b _ A h4).1
      exact ⟨pe, fun ht => default_test pe ht (by intros; simp) (by intros; simp) (by intros; simp)⟩
    · cases h
  | .bop c as, e, sc, X, A, h => by
    unfold chE at h
    split at h
    · rename_i op es pos
      simp only [Bool.and_eq_true] at h
      obtain ⟨h1, h2⟩ := h
      have ho : op = bOp c := by cases c <;> cases op <;> first | rfl | cases h1
      subst ho
      obtain ⟨q1, q2⟩ := sndB c as es pos A h2
      exact ⟨PE.imp q1 fun σ H Q h => by obtain ⟨g, r, s, v, s', R, e, k⟩ := h; rw [evE] at e; exact ⟨g, r, s, v, s', R, e, k⟩,
        fun _ => PT.imp q2.pt fun σ H Q h => by obtain ⟨g, r, s, v, s', R, e, k⟩ := h; rw [evE] at e; exact ⟨g, r, s, v, s', R, e, k⟩⟩
    · cases h
  | .not_ a, e, sc, X, A, h => by
    unfold chE at h
    split at h
    · simp only [Bool.and_eq_true] at h
      obtain ⟨q1, q2⟩ := sndE a _ A h.2
      obtain ⟨p1, p2⟩ := c_not q1 (q2 h.1)
      exact ⟨p1, fun _ => p2⟩
    · cases h
  | .ite c a b, e, sc, X, A, h => by
    unfold chE at h
    split at h
    · simp only [Bool.and_eq_true] at h
      obtain ⟨⟨⟨h1, h2⟩, h3⟩, h4⟩ := h
      exact ⟨c_ite ((sndE c _ A h2).2 h1) (sndE a _ A h3).1 (sndE b _ A h4).1, fun ht => by simp [tstB] at ht⟩
    · cases h
  | .chain p q a b c, e, sc, X, A, h => by
    unfold chE at h
    split at h
    · simp only [Bool.and_eq_true] at h
      obtain ⟨⟨⟨⟨⟨h1, h2⟩, h3⟩, h4⟩, h5⟩, h6⟩ := h
      obtain ⟨p1, p2⟩ := c_chain A.ok h1 h2 h3 (sndE a _ A h4).1 (sndE b _ A h5).1 (sndE c _ A h6).1
      exact ⟨p1, fun _ => p2⟩
    · cases h
  | .bi f as, e, sc, X, A, h => by
    unfold chE at h
    split at h
    · simp only [Bool.and_eq_true, beq_iff_eq] at h
      obtain ⟨⟨⟨h1, h2⟩, h3⟩, h4⟩ := h
      subst h1
      rename_i p d ds pos
      have pe := c_bi (G := G) (p := p) (pos := pos) A.ok f (glB_ok A.hs h2).1 h3 (sndEs as _ A h4 h3)
      exact ⟨pe, fun ht => default_test pe ht (by intros; simp) (by intros; simp) (by intros; simp)⟩
    · cases h
  | .isi a ts, e, sc, X, A, h => by
    unfold chE at h
    split at h
    · simp only [Bool.and_eq_true, beq_iff_eq] at h
      obtain ⟨⟨⟨⟨h1, h2⟩, h3⟩, h4⟩, h5⟩ := h
      subst h1
      rename_i p d t pos
      have pe := c_isi (G := G) (p := p) (pos := pos) A.ok A.hs h2 h3 h4 (sndE a _ A h5).1
      exact ⟨pe, fun ht => default_test pe ht (by intros; simp) (by intros; simp) (by intros; simp)⟩
    · cases h
  | .call f as, e, sc, X, A, h => by
    unfold chE at h
    split at h
    · rename_i x pp ds pos
      simp only [Bool.and_eq_true, beq_iff_eq] at h
      obtain ⟨⟨⟨⟨h0, h1⟩, h2⟩, h3⟩, h4⟩ := h
      have h0 : ko f = false := by simpa using h0
      subst h1
      obtain ⟨q1, q2, q3⟩ := glB_ok A.hs h2
      have pe : PEi G X (.Call (.Name (bs f) pp) ds [] pos) (.call f as) := by
        cases ds with
        | nil =>
          cases as with
          | nil => exact c_call0 A.ok h0 rfl q1 q2
          | cons a b => simp [chEs] at h4
        | cons d ds => exact c_call A.ok h0 rfl q1 q2 h3 (sndEs as _ A h4 h3)
      exact ⟨pe, fun ht => default_test pe ht (by intros; simp) (by intros; simp) (by intros; simp)⟩
    · cases h
  | .tup as, e, sc, X, A, h => by
    unfold chE at h
    split at h
    · simp only [Bool.and_eq_true, decide_eq_true_eq] at h
      obtain ⟨⟨h1, h2⟩, h3⟩ := h
      exact ⟨c_tup h1 (sndEs as _ A h3 h2) (evEs_len as h3), fun ht => by simp [tstB] at ht⟩
    · cases h
  | .lst z as, e, sc, X, A, h => by
    unfold chE at h
    split at h
    · simp only [Bool.and_eq_true, decide_eq_true_eq] at h
      obtain ⟨⟨h1, h2⟩, h3⟩ := h
      exact ⟨c_lst h1 (sndEs as _ A h3 h2) (evEs_len as h3), fun ht => by simp [tstB] at ht⟩
    · cases h
  | .sl a lo hi, e, sc, X, A, h => by
    unfold chE at h
    split at h
    · rename_i b l hh p2 pos
      simp only [Bool.and_eq_true] at h
      obtain ⟨⟨h1, h2⟩, h3⟩ := h
      obtain ⟨tl, q1, q2⟩ := sndO lo l A h2
      obtain ⟨th, q3, q4⟩ := sndO hi hh A h3
      have pe := c_sl (G := G) (p2 := p2) (pos := pos) (sndE a _ A h1).1 q1 q3 q2 q4
      exact ⟨pe, fun ht => default_test pe ht (by intros; simp) (by intros; simp) (by intros; simp)⟩
    · cases h
  | .sk kk a, e, sc, X, A, h => by
    unfold chE at h
    split at h
    · have pe := fun kk p1 p2 p3 pos => c_rev (G := G) (kk := kk) (p1 := p1) (p2 := p2) (p3 := p3) (pos := pos) (sndE a _ A h).1
      exact ⟨pe _ _ _ _ _, fun ht => default_test (pe _ _ _ _ _) ht (by intros; simp) (by intros; simp) (by intros; simp)⟩
    · have pe := fun k2 q2 p3 pos => c_sk (G := G) (kk := .even) (lo := none) (k2 := k2) (q2 := q2) (p3 := p3) (pos := pos) (.inl ⟨rfl, rfl⟩) (sndE a _ A h).1
      exact ⟨pe _ _ _ _, fun ht => default_test (pe _ _ _ _) ht (by intros; simp) (by intros; simp) (by intros; simp)⟩
    · have pe := fun k1 q1 k2 q2 p3 pos => c_sk (G := G) (kk := .odd) (lo := some (.Constant (.int 1) k1 q1)) (k2 := k2) (q2 := q2) (p3 := p3) (pos := pos) (.inr ⟨rfl, k1, q1, rfl⟩) (sndE a _ A h).1
      exact ⟨pe _ _ _ _ _ _, fun ht => default_test (pe _ _ _ _ _ _) ht (by intros; simp) (by intros; simp) (by intros; simp)⟩
    · cases h
  | .comp z own tg it c el, e, sc, X, A, h => by
    unfold chE at h
    split at h
    · rename_i elt tgE iter ifs asy scope pos
      simp only [Bool.and_eq_true, beq_iff_eq, List.all_eq_true] at h
      obtain ⟨⟨⟨⟨⟨⟨⟨h1, h2⟩, h3⟩, h4⟩, h5⟩, h6⟩, h7⟩, h8⟩ := h
      subst h1
      have ok : BlkOk X.N X.env.scope scope (ownOf N own) := by
        rw [A.hN, A.hs]
        exact blkOk_by h2
      have hown : (ownOf N own).map (·.2) = own := by
        unfold ownOf
        rw [List.map_map]
        show own.map (fun i => i) = own
        simp
      refine ⟨c_comp A.ok (sndI it tgE iter A h5) ok hown (fun i hi => by simpa using h3 i hi) (fun s H C cl fp => ?_) (fun s H C cl fp => sndC c ifs (A.blk s H C cl fp) h7) (fun s H C cl fp => (sndE el elt (A.blk s H C cl fp) h8).1) (folded_of h4), fun ht => by simp [tstB] at ht⟩
      have B := A.blk (scope := scope) s H C cl fp
      exact sndT B.ok.calm B.ok.nd B.hN B.hs (fun z => by cases z) tg tgE h6
    · cases h
  | .lm m o as, e, sc, X, A, h => by
    unfold chE at h
    split at h
    · rename_i b name apos ds pos
      simp only [Bool.and_eq_true, beq_iff_eq, decide_eq_true_eq] at h
      obtain ⟨⟨⟨⟨⟨⟨⟨h1, h2⟩, h3⟩, h4⟩, h5⟩, h6⟩, h7⟩, h8⟩ := h
      subst h1
      have pe : PEi G X (.Call (.Attribute b (lmF m) apos) ds [] pos) (.lm m o as) := by
        have ho := (sndE o _ A h7).1
        have hl : (apos.endLine == pos.line) = true := by simpa using h3
        cases ds with
        | nil =>
          simp only [List.isEmpty_nil, if_true, Bool.and_eq_true] at h6
          cases as with
          | nil =>
            cases m <;> first
              | exact absurd h6.1 (by decide)
              | exact c_lm0 (m := .pop) rfl PySem.F.slot_list_pop PySem.F.type_list_pop h2 hl ho
              | exact c_lm0 (m := .reverse) rfl PySem.F.slot_list_reverse PySem.F.type_list_reverse h2 hl ho
              | exact c_lm0 (m := .clear) rfl PySem.F.slot_list_clear PySem.F.type_list_clear h2 hl ho
          | cons a b => simp [chEs] at h8
        | cons d ds =>
          have ha := sndEs as _ A h8 h4
          simp only [List.isEmpty_cons, Bool.false_eq_true, if_false] at h6
          cases m <;> first
            | exact absurd h6 (by decide)
            | exact c_lm1 (m := .append) rfl rfl PySem.F.slot_list_append PySem.F.type_list_append h2 h4 h5 hl ho ha
            | exact c_lm1 (m := .extend) rfl rfl PySem.F.slot_list_extend PySem.F.type_list_extend h2 h4 h5 hl ho ha
            | exact c_lm1 (m := .popAt) rfl rfl PySem.F.slot_list_pop PySem.F.type_list_pop h2 h4 h5 hl ho ha
      exact ⟨pe, fun ht => default_test pe ht (by intros; simp) (by intros; simp) (by intros; simp)⟩
    · cases h
  | .frz a, e, sc, X, A, h => by
    unfold chE at h
    simp only [Bool.and_eq_true] at h
    have pe := c_frz (sndE a e A h.2).1
    have hp := h.1
    exact ⟨pe, fun ht => default_test pe ht (by rintro a b c d rfl; cases hp) (by rintro a b c rfl; cases hp) (by rintro a b rfl; cases hp)⟩
  | .comp2 own own1 tg it tg1 it1 el, e, sc, X, A, h => by
    unfold chE at h
    split at h
    · rename_i elt tgE iter asy tgE1 iter1 asy1 scope pos
      simp only [Bool.and_eq_true, beq_iff_eq, List.all_eq_true] at h
      obtain ⟨⟨⟨⟨⟨⟨⟨⟨⟨⟨⟨⟨h1, h1'⟩, h2⟩, h3⟩, h3'⟩, h3''⟩, h4⟩, h4'⟩, h5⟩, h6⟩, h7⟩, h7'⟩, h8⟩ := h
      subst h1 h1'
      have ok : BlkOk X.N X.env.scope scope (ownOf N own) := by
        rw [A.hN, A.hs]
        exact blkOk_by h2
      have hown : (ownOf N own).map (·.2) = own := by
        unfold ownOf
        rw [List.map_map]
        show own.map (fun i => i) = own
        simp
      refine ⟨c_comp2 A.ok (sndI it tgE iter A h5) ok hown (fun i hi => by simpa using h3 i hi) (fun i hi => by simpa using h3' i hi) (fun i hi => by simpa using h3'' i hi) (fun s H C cl fp => ?_) (fun s H C cl fp => c_pts0) (fun s H C cl fp => sndI it1 tgE1 iter1 (A.blk s H C cl fp) h7) (fun s H C cl fp => ?_) (fun s H C cl fp => (sndE el elt (A.blk s H C cl fp) h8).1) (folded_of h4) (fun env => folded_of h4'), fun ht => by simp [tstB] at ht⟩
      · have B := A.blk (scope := scope) s H C cl fp
        exact sndT B.ok.calm B.ok.nd B.hN B.hs (fun z => by cases z) tg tgE h6
      · have B := A.blk (scope := scope) s H C cl fp
        exact sndT B.ok.calm B.ok.nd B.hN B.hs (fun z => by cases z) tg1 tgE1 h7'
    · cases h
  | .maxD a b, e, sc, X, A, h => by
    unfold chE at h
    split at h
    · rename_i x p d kw dv kp pos
      simp only [Bool.and_eq_true, beq_iff_eq] at h
      obtain ⟨⟨⟨⟨⟨h1, h2⟩, h3⟩, h4⟩, h5⟩, h6⟩ := h
      subst h1 h2
      have pe : PEi G X (.Call (.Name "max" p) [d] [⟨some "default", dv, kp⟩] pos) (.maxD a b) := c_maxD A.ok (glB_ok A.hs h3).1 h4 (c_cons h4 (sndE a d A h5).1 c_nil) (c_kcons (sndE b dv A h6).1 c_knil)
      exact ⟨pe, fun ht => default_test pe ht (by intros; simp) (by intros; simp) (by intros; simp)⟩
    · cases h
  | .callk f as ks zs, e, sc, X, A, h => by
    unfold chE at h
    split at h
    · rename_i x pp ds kws pos
      simp only [Bool.and_eq_true, beq_iff_eq] at h
      obtain ⟨⟨⟨⟨⟨h1, h2⟩, h3⟩, h4⟩, h5⟩, h6⟩ := h
      subst h1
      obtain ⟨q1, q2, q3⟩ := glB_ok A.hs h2
      have hl : ∀ r s us s', evEs G zs r s = some (us, s') → us.length = ks.length := fun r s us s' e => by
        rw [evEs_len zs h6 r s us s' e, List.length_map]
        have := congrArg List.length h4
        simpa using this
      have pe : PEi G X (.Call (.Name (bs f) pp) ds kws pos) (.callk f as ks zs) := by
        cases ds with
        | nil =>
          cases as with
          | nil => exact c_callk0 A.ok rfl q1 q2 h4 hl (sndK zs kws A h6)
          | cons a b => simp [chEs] at h5
        | cons d ds => exact c_callk A.ok rfl q1 q2 h3 h4 hl (sndEs as _ A h5 h3) (sndK zs kws A h6)
      exact ⟨pe, fun ht => default_test pe ht (by intros; simp) (by intros; simp) (by intros; simp)⟩
    · cases h
  | .mk _ _, e, sc, X, A, h => by unfold chE at h; cases h
  | .meth _ _ _, e, sc, X, A, h => by unfold chE at h; cases h
  | .fld _ _, e, sc, X, A, h => by unfold chE at h; cases h
  | .sm m o as, e, sc, X, A, h => by
    unfold chE at h
    split at h
    · rename_i b name apos d ds pos
      simp only [Bool.and_eq_true, beq_iff_eq, decide_eq_true_eq] at h
      obtain ⟨⟨⟨⟨⟨⟨h1, h2⟩, h3⟩, h4⟩, h5⟩, h6⟩, h7⟩ := h
      subst h1
      have pe : PEi G X (.Call (.Attribute b "join" apos) (d :: ds) [] pos) (.sm .join o as) := c_join h2 h4 h5 (by simpa using h3) (sndE o _ A h6).1 (sndEs as _ A h7 h4)
      exact ⟨pe, fun ht => default_test pe ht (by intros; simp) (by intros; simp) (by intros; simp)⟩
    · cases h
theorem sndEs : ∀ (as : Exs) (es : List Expr) {sc : Scope} {X : Cx}, At G k N sc X → chEs G.con N sc as es = true → stars es = true → PAi G X es as
  | .nil, es, sc, X, A, h, hs => by
    rw [chEs] at h
    cases es with
    | nil => exact c_nil
    | cons a b => simp at h
  | .cons a as, es, sc, X, A, h, hs => by
    cases es with
    | nil => simp [chEs] at h
    | cons d ds =>
      simp only [chEs, Bool.and_eq_true] at h
      have hs' : notStar d = true ∧ stars ds = true := by simpa [stars] using hs
      exact c_cons hs'.1 (sndE a d A h.1).1 (sndEs as ds A h.2 hs'.2)
theorem sndK : ∀ (as : Exs) (kws : List Keyword) {sc : Scope} {X : Cx}, At G k N sc X → chEs G.con N sc as (kws.map (·.value)) = true → PK X kws (TIa X.K X.mg (evEs G as))
  | .nil, kws, sc, X, A, h => by
    rw [chEs] at h
    cases kws with
    | nil => exact c_knil
    | cons a b => simp at h
  | .cons a as, kws, sc, X, A, h => by
    cases kws with
    | nil => simp [chEs] at h
    | cons d ds =>
      simp only [chEs, Bool.and_eq_true, List.map_cons] at h
      exact c_kcons (sndE a d.value A h.1).1 (sndK as ds A h.2)
theorem sndB : ∀ (c : Bool) (as : Exs) (es : List Expr) (pos : Pos) {sc : Scope} {X : Cx}, At G k N sc X → chBs G.con N sc as es = true → PE X (.BoolOp (bOp c) es pos) (TIe X.K X.mg (evB G c as)) ∧ PW X (.BoolOp (bOp c) es pos) (TIt X.K X.mg (evB G c as))
  | c, .nil, es, pos, sc, X, A, h => by simp [chBs] at h
  | c, .cons a as, es, pos, sc, X, A, h => by
    cases es with
    | nil => simp [chBs] at h
    | cons d ds =>
      simp only [chBs, Bool.and_eq_true] at h
      obtain ⟨⟨h1, h2⟩, h3⟩ := h
      obtain ⟨q1, q2⟩ := sndE a d A h2
      cases ds with
      | nil =>
        cases as with
        | nil => exact c_b1 q1 (q2 h1)
        | cons b bs => simp [Exs.isNil] at h3
      | cons f fs =>
        simp only [List.isEmpty_cons, Bool.false_eq_true, if_false] at h3
        obtain ⟨p1, p2⟩ := sndB c as (f :: fs) pos A h3
        cases as with
        | nil => simp [chBs] at h3
        | cons b bs => exact c_b2 q1 (q2 h1) p1 p2
theorem sndO : ∀ (o : Ox) (e : Option Expr) {sc : Scope} {X : Cx}, At G k N sc X → chO G.con N sc o e = true → ∃ t, PO X e t ∧
    ∀ σ H R, (∃ g r s v s', StR X.K X.mg g r s σ H ∧ evO G o r s = some (v, s') ∧ ∃ o, optI v = some o ∧ ∀ g' H', RlS X.K X.mg g' s' H' → Stp g H g' H' → R o H') → t σ H R
  | .no, e, sc, X, A, h => by
    cases e with
    | none => exact ⟨_, po_none, o_no⟩
    | some a => simp [chO] at h
  | .so a, e, sc, X, A, h => by
    cases e with
    | none => simp [chO] at h
    | some d =>
      unfold chO at h
      exact ⟨_, po_some (sndE a d A h).1, o_so⟩
theorem sndC : ∀ (o : Ox) (es : List Expr) {sc : Scope} {X : Cx}, At G k N sc X → chC G.con N sc o es = true → PTs X es (TIt X.K X.mg (evC G o))
  | .no, es, sc, X, A, h => by
    cases es with
    | nil =>
      refine ⟨fun pins s σ H Q I q => (pts_nil (X := X)).run pins s σ H Q I ?_⟩
      obtain ⟨g, r, st, b, s', R, e, k⟩ := q
      rw [evC] at e
      cases e
      exact k g H R.st (Stp.refl _ _)
    | cons a b => simp [chC] at h
  | .so a, es, sc, X, A, h => by
    unfold chC at h
    split at h
    · simp only [Bool.and_eq_true] at h
      obtain ⟨q1, q2⟩ := sndE a _ A h.2
      refine ⟨fun pins s σ H Q I q => (pts_one (q2 h.1)).run pins s σ H Q I ?_⟩
      obtain ⟨g, r, st, b, s', R, e, k⟩ := q
      rw [evC] at e
      exact ⟨g, r, st, b, s', R, e, k⟩
    · cases h
theorem sndI : ∀ (p : It) (tg e : Expr) {sc : Scope} {X : Cx}, At G k N sc X → chI G.con N sc tg p e = true → PIi G X tg e p
  | .seq a, tg, e, sc, X, A, h => by
    unfold chI at h
    exact c_seq (sndE a e A h).1
  | .rng1 a, tg, e, sc, X, A, h => by
    unfold chI at h
    split at h
    · simp only [Bool.and_eq_true, beq_iff_eq] at h
      obtain ⟨⟨⟨h1, h2⟩, h3⟩, h4⟩ := h
      subst h1
      exact c_rng1 A.ok (glB_ok A.hs h2).1 h3 (sndE a _ A h4).1
    · cases h
  | .rng2 a b, tg, e, sc, X, A, h => by
    unfold chI at h
    split at h
    · simp only [Bool.and_eq_true, beq_iff_eq] at h
      obtain ⟨⟨⟨⟨⟨h1, h2⟩, h3⟩, h4⟩, h5⟩, h6⟩ := h
      subst h1
      exact c_rng2 A.ok (glB_ok A.hs h2).1 h3 h4 (sndE a _ A h5).1 (sndE b _ A h6).1
    · cases h
  | .rng3 _ _ _, tg, e, sc, X, A, h => by unfold chI at h; cases h
  | .zip a b, tg, e, sc, X, A, h => by
    unfold chI at h
    split at h
    · simp only [Bool.and_eq_true, beq_iff_eq] at h
      obtain ⟨⟨⟨⟨⟨h1, h2⟩, h3⟩, h4⟩, h5⟩, h6⟩ := h
      subst h1
      exact c_zip A.ok (glB_ok A.hs h2).1 h3 h4 (sndE a _ A h5).1 (sndE b _ A h6).1
    · cases h
  | .enum a, tg, e, sc, X, A, h => by
    unfold chI at h
    split at h
    · simp only [Bool.and_eq_true, beq_iff_eq] at h
      obtain ⟨⟨⟨h1, h2⟩, h3⟩, h4⟩ := h
      subst h1
      exact c_enum A.ok (glB_ok A.hs h2).1 h3 (sndE a _ A h4).1
    · cases h
  | .rev a, tg, e, sc, X, A, h => by
    unfold chI at h
    split at h
    · simp only [Bool.and_eq_true, beq_iff_eq] at h
      obtain ⟨⟨⟨h1, h2⟩, h3⟩, h4⟩ := h
      subst h1
      exact c_revI A.ok (glB_ok A.hs h2).1 h3 (sndE a _ A h4).1
    · cases h
end
end
end MP

/-! MP10: statements. -/
namespace MP
open PySem PySem.Spec PyProof.Rows L2 RZ

theorem PS.imp {X : Cx} {e : Stmt} {t t' : TS} (h : PS X e t) (k : ∀ D σ H, t' D σ H → t D σ H) : PS X e t' := ⟨fun pins s σ H Q I q => h.run pins s σ H Q I (k Q σ H q)⟩
theorem PSs.imp {X : Cx} {e : List Stmt} {t t' : TS} (h : PSs X e t) (k : ∀ D σ H, t' D σ H → t D σ H) : PSs X e t' := ⟨fun pins s σ H Q I q => h.run pins s σ H Q I (k Q σ H q)⟩
section
variable (K : PySem.W.Frag) (mg : Str → Option Value)
/-- an end is wanted -/
def EndF (g : Gh) (H : Hp) (f : Fl) (D : Ends) : Prop := match f with
  | .nx r => ∀ σ, Sl K g σ r → D.nx σ H
  | .bk r => ∀ σ, Sl K g σ r → D.bk σ H
  | .ct r => ∀ σ, Sl K g σ r → D.ct σ H
  | .rt v => ∀ w, RepV K g w v → D.rt w H
def EndW (g : Gh) (H : Hp) (s : Sto) (f : Fl) (D : Ends) : Prop := ∀ g' H', RlS K mg g' s H' → Stp g H g' H' → EndF K g' H' f D
def TIs (ex : Nv → Sto → Option (Fl × Sto)) : TS := fun D σ H => ∃ g r s f s', StR K mg g r s σ H ∧ ex r s = some (f, s') ∧ EndW K mg g H s' f D
end
theorem EndW.later {K : PySem.W.Frag} {mg : Str → Option Value} {g g' : Gh} {H H' : Hp} {s : Sto} {f : Fl} {D : Ends} (k : EndW K mg g H s f D) (p : Stp g H g' H') : EndW K mg g' H' s f D := fun g2 H2 R q => k g2 H2 R (p.trans q)

section
variable {G : Cn} {k : Nat} {X : Cx}
abbrev PSi (G : Cn) (X : Cx) (st : Stmt) (p : Sm') : Prop := PS X st (TIs X.K X.mg (exS G p))
abbrev PBi (G : Cn) (X : Cx) (st : List Stmt) (p : Sms) : Prop := PSs X st (TIs X.K X.mg (exB G p))

theorem s_nil : PBi G X [] .nil := by
  refine PSs.imp pss_nil fun D σ H h => ?_
  obtain ⟨g, r, s, f, s', R, e, k⟩ := h
  rw [exB] at e
  cases e
  exact k g H R.st (Stp.refl _ _) σ R.env
theorem s_cons {a : Sm'} {b : Sms} {st : Stmt} {sts : List Stmt} (ha : PSi G X st a) (hb : PBi G X sts b) : PBi G X (st :: sts) (.cons a b) := by
  refine PSs.imp (pss_cons ha hb) fun D σ H h => ?_
  obtain ⟨g, r, s, f, s', R, e, k⟩ := h
  rw [exB] at e
  obtain ⟨f1, s1, e1, e⟩ := bnd_eq e
  refine ⟨g, r, s, f1, s1, R, e1, fun g1 H1 R1 p1 => ?_⟩
  cases f1 with
  | nx r1 => exact fun σ1 l1 => ⟨g1, r1, s1, f, s', ⟨R1, l1⟩, e, k.later p1⟩
  | rt v => cases e; exact k g1 H1 R1 p1
  | bk v => cases e; exact k g1 H1 R1 p1
  | ct v => cases e; exact k g1 H1 R1 p1
theorem s_pass {pos : Pos} : PSi G X (.Pass pos) .pass := by
  refine PS.imp ps_pass fun D σ H h => ?_
  obtain ⟨g, r, s, f, s', R, e, k⟩ := h
  rw [exS] at e
  cases e
  exact k g H R.st (Stp.refl _ _) σ R.env
theorem s_doc {x : Str} {j : Nat} {pos pos' : Pos} : PSi G X (.Expr (.Constant (.str x) j pos) pos') .pass := by
  refine PS.imp ps_doc fun D σ H h => ?_
  obtain ⟨g, r, s, f, s', R, e, k⟩ := h
  rw [exS] at e
  cases e
  exact k g H R.st (Stp.refl _ _) σ R.env
theorem s_brk {pos : Pos} : PSi G X (.Break pos) .brk := by
  refine PS.imp ps_break fun D σ H h => ?_
  obtain ⟨g, r, s, f, s', R, e, k⟩ := h
  rw [exS] at e
  cases e
  exact k g H R.st (Stp.refl _ _) σ R.env
theorem s_cnt {pos : Pos} : PSi G X (.Continue pos) .cnt := by
  refine PS.imp ps_continue fun D σ H h => ?_
  obtain ⟨g, r, s, f, s', R, e, k⟩ := h
  rw [exS] at e
  cases e
  exact k g H R.st (Stp.refl _ _) σ R.env
theorem s_never {st : Stmt} : PSi G X st .never := by
  refine PS.imp ps_never fun D σ H h => ?_
  obtain ⟨g, r, s, f, s', R, e, k⟩ := h
  rw [exS] at e
  cases e
theorem s_retN {pos : Pos} : PSi G X (.Return none pos) .retN := by
  refine PS.imp ps_retN fun D σ H h => ?_
  obtain ⟨g, r, s, f, s', R, e, k⟩ := h
  rw [exS] at e
  cases e
  exact k g H R.st (Stp.refl _ _) _ (.d .non)
theorem s_ret {p : Ex} {e : Expr} {pos : Pos} (h : PEi G X e p) : PSi G X (.Return (some e) pos) (.ret p) := by
  refine PS.imp (ps_ret h) fun D σ H h => ?_
  obtain ⟨g, r, s, f, s', R, e, k⟩ := h
  rw [exS] at e
  obtain ⟨v, s1, e1, e⟩ := bnd_eq e
  cases e
  exact ⟨g, r, s, v, _, R, e1, fun g' w H' R' p' r' => k g' H' R' p' w r'⟩
theorem s_ex {p : Ex} {e : Expr} {pos : Pos} (h : PEi G X e p) (hs : swapsWith e none pos.line X.env = pure false) : PSi G X (.Expr e pos) (.ex p) := by
  refine PS.imp (ps_expr h hs) fun D σ H h => ?_
  obtain ⟨g, r, s, f, s', R, e, k⟩ := h
  rw [exS] at e
  obtain ⟨v, s1, e1, e⟩ := bnd_eq e
  cases e
  exact ⟨g, r, s, v, _, R, e1, fun g' w H' R' p' r' => k g' H' R' p' σ (p'.sl R.env)⟩
theorem s_ifs {c : Ex} {a b : Sms} {ce : Expr} {as bs : List Stmt} {pos : Pos} (hc : PTi G X ce c) (ha : PBi G X as a) (hb : PBi G X bs b) : PSi G X (.If ce as bs pos) (.ifs c a b) := by
  refine PS.imp (ps_if hc ha hb) fun D σ H h => ?_
  obtain ⟨g, r, s, f, s', R, e, k⟩ := h
  rw [exS] at e
  obtain ⟨v, s1, e1, e⟩ := bnd_eq e
  split at e
  · exact ⟨g, r, s, true, s1, R, e1, fun g1 H1 R1 p1 => iteT ⟨g1, r, s1, f, s', ⟨R1, p1.sl R.env⟩, e, k.later p1⟩⟩
  · exact ⟨g, r, s, false, s1, R, e1, fun g1 H1 R1 p1 => iteF ⟨g1, r, s1, f, s', ⟨R1, p1.sl R.env⟩, e, k.later p1⟩⟩
  · cases e
theorem read_asg {t : Tg} {p : Ex} {D : Ends} {σ : L2.St} {H : Hp} (h : TIs X.K X.mg (exS G (.asg t p)) D σ H) : TIe X.K X.mg (evE G p) σ H fun x H1 => gR X.K X.mg t x σ H1 D.nx := by
  obtain ⟨g, r, s, f, s', R, e, k⟩ := h
  rw [exS] at e
  obtain ⟨v, s1, e1, e⟩ := bnd_eq e
  split at e
  · rename_i r1 hb
    cases e
    exact ⟨g, r, s, v, _, R, e1, fun g' w H' R' p' r' => ⟨g', r, _, v, r1, ⟨R', p'.sl R.env⟩, r', hb, fun σ' l' _ => k g' H' R' p' σ' l'⟩⟩
  · cases e
theorem s_asg {t : Tg} {p : Ex} {tg e : Expr} {pos : Pos} (h : PEi G X e p) (hg : PG X tg (gR X.K X.mg t)) (hs : swapsWithSole [tg] e pos.line X.env = pure false) (hw : swappedStores [tg] e X.env = pure none) (hn : notStar tg = true) :
    PSi G X (.Assign [tg] e pos) (.asg t p) :=
  PS.imp (ps_asg h hg hs hw (by rw [assignEach_of hn] <;> rfl)) fun D σ H h => read_asg h
theorem gName_of {i : Nat} {w : V} {σ : L2.St} {H : Hp} {Q : L2.St → Hp → Prop} (h : gR X.K X.mg (.name i) w σ H Q) : gName i w σ H Q := by
  obtain ⟨g, r, st, y, r', R, ry, e, k⟩ := h
  cases e
  exact k _ (sl_set R.env ry i) (Ch.set _ _ _)
theorem tie_mono {ev : Nv → Sto → Option (Vl × Sto)} {K : PySem.W.Frag} {mg : Str → Option Value} {σ : L2.St} {H : Hp} {Q Q' : VK} (h : TIe K mg ev σ H Q) (hq : ∀ x H, Q x H → Q' x H) : TIe K mg ev σ H Q' := by
  obtain ⟨g, r, s, v, s', R, e, k⟩ := h
  exact ⟨g, r, s, v, s', R, e, fun g' w H' a b c => hq _ _ (k g' w H' a b c)⟩
theorem s_par {i j : Nat} {a b : Ex} {x y : Str} {e1 e2 : Expr} {px py pt : Pos} {kt k2 : Nat} {pt2 pos : Pos} (o : Okx G k X) (hi : X.N[i]? = some x) (hj : X.N[j]? = some y) (hij : i ≠ j)
    (hx : X.env.scope.names.lookup x = some .local) (hy : X.env.scope.names.lookup y = some .local) (ha : PAi G X [e1, e2] (.cons a (.cons b .nil)))
    (hw : swappedStores [.Tuple [.Name x px, .Name y py] kt pt] (.Tuple [e1, e2] k2 pt2) X.env = pure (some [x, y])) : PSi G X (.Assign [.Tuple [.Name x px, .Name y py] kt pt] (.Tuple [e1, e2] k2 pt2) pos) (.par i j a b) := by
  refine PS.imp (ps_par o.calm o.nd hi hj hij hx hy ha hw rfl) fun D σ H h => ?_
  obtain ⟨g, r, s, f, s', R, e, k⟩ := h
  rw [exS] at e
  obtain ⟨v, s1, e1, e⟩ := bnd_eq e
  obtain ⟨w, s2, e2, e⟩ := bnd_eq e
  cases e
  refine ⟨g, r, s, [v, w], s', R, by simp only [evEs, e1, e2, bnd_some], fun g' ws H' R' p' r' => ?_⟩
  cases r' with
  | cons q1 q2 =>
    cases q2 with
    | cons q2 q3 =>
      cases q3
      exact ⟨_, _, rfl, k g' H' R' p' _ (sl_set (sl_set (p'.sl R.env) q1 i) q2 j)⟩
/-- list[i] = v -/
def rSetI (K : PySem.W.Frag) (mg : Str → Option Value) : V → V → V → Hp → (Hp → Prop) → Prop := fun o i v H Q =>
  ∃ g s n k vs x j, RlS K mg g s H ∧ RepV K g o (.loc n) ∧ RepV K g i (.d (.int k)) ∧ RepV K g v x ∧ s[n]? = some (.lst vs) ∧ L2.ixN vs.length k = some j ∧ ∀ H', RlS K mg g (s.set n (.lst (vs.set j x))) H' → Stp g H g H' → Q H'
theorem set_I : PSet X (rSetI X.K X.mg) := by
  intro pins s σ H o i v ov iv u Q I ro ri rv h
  refine set_list pins s σ H o i v ov iv u Q I ro ri rv ?_
  obtain ⟨g, st, n, k, vs, x, j, R, q1, q2, q3, q4, q5, kk⟩ := h
  cases q1 with
  | loc q1 =>
    obtain ⟨hF, xs, hx, hr⟩ := R.obj n _ _ q1 q4
    cases q2 with
    | d q2 =>
      cases q2
      refine ⟨_, xs, k, j, rfl, rfl, hx, by rw [hr.length]; exact q5, ?_⟩
      obtain ⟨R', S'⟩ := R.put (ys := xs) (o := .lst (vs.set j x)) (u := .lst (xs.set j v)) q1 hF fun H hH => ⟨hF, _, hH, RepVs.set q3 j hr⟩
      exact kk _ R' S'
theorem s_asgI {o i p : Ex} {eo ei e : Expr} {pos pos' : Pos} (h : PEi G X e p) (ho : PEi G X eo o) (hi : PEi G X ei i) (hsl : notSlice ei = true) (hs : swapsWithSole [.Subscript eo ei pos'] e pos.line X.env = pure false) (hw : swappedStores [.Subscript eo ei pos'] e X.env = pure none) :
    PSi G X (.Assign [.Subscript eo ei pos'] e pos) (.asgI o i p) := by
  have hg : PG X (.Subscript eo ei pos') (gSub (TIe X.K X.mg (evE G o)) (TIe X.K X.mg (evE G i)) (rSetI X.K X.mg)) := pg_sub ho hi set_I (by cases ei <;> first | exact fun _ => rfl | cases hsl)
  refine PS.imp (ps_asg h hg hs hw (by rw [assignEach_of (by rfl)] <;> rfl)) fun D σ H h => ?_
  obtain ⟨g, r, s, f, s', R, e, k⟩ := h
  rw [exS] at e
  obtain ⟨v, s1, e1, e⟩ := bnd_eq e
  obtain ⟨x, s2, e2, e⟩ := bnd_eq e
  obtain ⟨y, s3, e3, e⟩ := bnd_eq e
  refine ⟨g, r, s, v, s1, R, e1, fun g1 w1 H1 R1 p1 r1 => ⟨g1, r, s1, x, s2, ⟨R1, p1.sl R.env⟩, e2, fun g2 w2 H2 R2 p2 r2 => ⟨g2, r, s2, y, s3, ⟨R2, (p1.trans p2).sl R.env⟩, e3, fun g3 w3 H3 R3 p3 r3 => ?_⟩⟩⟩
  split at e
  · rename_i n kk _
    split at e
    · rename_i xs hx
      split at e
      · rename_i j hj
        cases e
        exact ⟨g3, s3, n, kk, xs, v, j, R3, p3.rep r2, r3, (p2.trans p3).rep r1, hx, hj, fun H' R' p' => k g3 H' R' (p1.trans (p2.trans (p3.trans p'))) σ ((p1.trans (p2.trans p3)).sl R.env)⟩
      · cases e
    · cases e
  · cases e
theorem idx_loc {s : Sto} {n : Nat} {i : Int} {z : Vl} (h : o2v .idx s (.loc n) (.d (.int i)) = some z) : ∃ vs, s[n]? = some (.lst vs) ∧ L2.atI vs i = some z := by
  unfold o2v at h
  simp only [seqOf] at h
  split at h
  · rename_i h2
    split at h2
    · rename_i h3
      cases h2
      exact ⟨_, h3, h⟩
    · cases h2
  · cases h
/-- list[i] -/
def rGetI (K : PySem.W.Frag) (mg : Str → Option Value) : V → V → Hp → VK → Prop := fun o i H Q =>
  ∃ g s n j z, RlS K mg g s H ∧ RepV K g o (.loc n) ∧ RepV K g i (.d (.int j)) ∧ o2v .idx s (.loc n) (.d (.int j)) = some z ∧ ∀ w, RepV K g w z → Q w H
theorem get_I : PGet X (rGetI X.K X.mg) := by
  intro pins s σ H x y v u Q I rx ry h
  obtain ⟨g, st, n, i, z, R, q1, q2, q3, kk⟩ := h
  obtain ⟨vs, hs, he⟩ := idx_loc q3
  cases q1 with
  | loc q1 =>
    obtain ⟨hF, xs, hx, hr⟩ := R.obj n _ _ q1 hs
    cases q2 with
    | d q2 =>
      cases q2
      obtain ⟨z', he', rz⟩ := atI_rep hr he
      have fin0 := kk z' rz
      cases rx
      obtain ⟨t, rfl⟩ := ry
      obtain ⟨its, r, pl, hz⟩ := I.list (SqL.of hx)
      obtain ⟨j, h1, h2, h3, h4, h5⟩ := atI_get he'
      obtain ⟨w, ew, rw'⟩ := r.get h2
      have hl := r.length
      have hn := line63
      have fin : EP X pins σ Q w s := ⟨z', H, I, rw', fin0⟩
      by_cases h0 : 0 ≤ i
      · have hj : i.toNat = j := by
          rw [seqIndex_of h0 h5] at h1
          exact Option.some.inj h1
        exact wpAny_getItem_list pl.isList h0 (by omega) (by rw [hj]; simpa using ew) fin
      · have hj : (i + (its.toArray.size : Int)).toNat = j := by
          rw [seqIndex_neg (by omega) h4] at h1
          rw [List.size_toArray, ← hl]
          exact Option.some.inj h1
        exact wpAny_getItem_list_neg pl.isList (by omega) (by rw [List.size_toArray] <;> omega) (by omega) (by rw [hj]; simpa using ew) fin
/-- in place: numbers -/
def rAug (K : PySem.W.Frag) (o : O2) : TIp := fun x y H Q => ∃ g a b z, RepV K g x a ∧ RepV K g y b ∧ augv o a b = some z ∧ ∀ w, RepV K g w z → Q w H
def augB : O2 → Operator → Bool
  | .add, .Add => true
  | .sub, .Sub => true
  | _, _ => false
theorem aug_ok {o : O2} {op : Operator} (h : augB o op = true) : PIp X op (rAug X.K o) := by
  have key : ∀ {p : O2} {f : Int → Int → Int}, (∀ a b z, augv p a b = some z → ∃ i j, a = .d (.int i) ∧ b = .d (.int j) ∧ z = .d (.int (f i j))) → ∀ x y H Q, rAug X.K p x y H Q → ipI f x y H Q := fun hp x y H Q h => by
    obtain ⟨g, a, b, z, r1, r2, e, k⟩ := h
    obtain ⟨i, j, rfl, rfl, rfl⟩ := hp a b z e
    cases r1 with
    | d r1 =>
      cases r1
      cases r2 with
      | d r2 =>
        cases r2
        exact ⟨i, j, rfl, rfl, k _ (rep_int _)⟩
  have sp : ∀ {p : O2} {a b z : Vl}, augv p a b = some z → ∃ i j, a = .d (.int i) ∧ b = .d (.int j) ∧ ((p = .add ∧ z = .d (.int (i + j))) ∨ (p = .sub ∧ z = .d (.int (i - j)))) := fun {p a b z} e => by
    unfold augv at e
    split at e
    · cases e; exact ⟨_, _, rfl, rfl, .inl ⟨rfl, rfl⟩⟩
    · cases e; exact ⟨_, _, rfl, rfl, .inr ⟨rfl, rfl⟩⟩
    · cases e
  cases o <;> cases op <;> first
    | exact absurd h (by decide)
    | exact fun pins s σ H x y v u Q I r1 r2 h => ip_add pins s σ H x y v u Q I r1 r2 (key (fun a b z e => by
        obtain ⟨i, j, rfl, rfl, h | h⟩ := sp e
        · exact ⟨i, j, rfl, rfl, h.2⟩
        · cases h.1) x y H Q h)
    | exact fun pins s σ H x y v u Q I r1 r2 h => ip_sub pins s σ H x y v u Q I r1 r2 (key (fun a b z e => by
        obtain ⟨i, j, rfl, rfl, h | h⟩ := sp e
        · cases h.1
        · exact ⟨i, j, rfl, rfl, h.2⟩) x y H Q h)
theorem s_aug {i : Nat} {x : Str} {p : Ex} {o : O2} {op : Operator} {e : Expr} {pos pos' : Pos} (ok : Okx G k X) (hi : X.N[i]? = some x) (hx : Loc X.env.scope x) (hf : X.fn x = true ∨ X.env.scope.names.lookup x = some .local) (ho : augB o op = true) (h : PEi G X e p) :
    PSi G X (.AugAssign (.Name x pos') op e pos) (.aug i o p) := by
  refine PS.imp (ps_aug ok.nd hi hx h (aug_ok ho) hf) fun D σ H h => ?_
  obtain ⟨g, r, s, f, s', R, e, k⟩ := h
  rw [exS] at e
  split at e
  · rename_i v hv
    obtain ⟨y, s1, e1, e⟩ := bnd_eq e
    split at e
    · rename_i z hz
      cases e
      obtain ⟨w, hw, rw'⟩ := R.env.2 i v hv
      exact ⟨w, hw, g, r, s, y, _, R, e1, fun g1 u H1 R1 p1 r1 => ⟨g1, v, y, z, p1.rep rw', r1, hz, fun w2 r2 => k g1 H1 R1 p1 _ (sl_set (p1.sl R.env) r2 i)⟩⟩
    · cases e
  · cases e
theorem s_augI {o i p : Ex} {q : O2} {op : Operator} {eo ei e : Expr} {pos pos' : Pos} (ho : PEi G X eo o) (hi : PEi G X ei i) (hsl : notSlice ei = true) (hq : augB q op = true) (h : PEi G X e p) :
    PSi G X (.AugAssign (.Subscript eo ei pos') op e pos) (.augI o i q p) := by
  refine PS.imp (ps_augS ho hi get_I h (aug_ok hq) set_I (by intro ov iv new; cases ei <;> first | rfl | cases hsl)) fun D σ H h => ?_
  obtain ⟨g, r, s, f, s', R, e, k⟩ := h
  rw [exS] at e
  obtain ⟨x, s1, e1, e⟩ := bnd_eq e
  obtain ⟨y, s2, e2, e⟩ := bnd_eq e
  split at e
  rotate_left
  · cases e
  rename_i old hold
  obtain ⟨v, s3, e3, e⟩ := bnd_eq e
  split at e
  rotate_left
  · cases e
  rename_i z hz
  split at e
  rotate_left
  · cases e
  rename_i n kk _ _
  split at e
  rotate_left
  · cases e
  rename_i xs hx
  split at e
  rotate_left
  · cases e
  rename_i j hj
  cases e
  refine ⟨g, r, s, _, s1, R, e1, fun g1 w1 H1 R1 p1 r1 => ⟨g1, r, s1, _, s2, ⟨R1, p1.sl R.env⟩, e2, fun g2 w2 H2 R2 p2 r2 => ?_⟩⟩
  refine ⟨g2, s2, _, _, old, R2, p2.rep r1, r2, hold, fun w3 r3 => ?_⟩
  refine ⟨g2, r, s2, v, s3, ⟨R2, (p1.trans p2).sl R.env⟩, e3, fun g4 w4 H4 R4 p4 r4 => ?_⟩
  refine ⟨g4, old, v, z, p4.rep r3, r4, hz, fun w5 r5 => ?_⟩
  exact ⟨g4, s3, n, kk, xs, z, j, R4, (p2.trans p4).rep r1, p4.rep r2, r5, hx, hj, fun H' R' p' => k g4 H' R' (p1.trans (p2.trans (p4.trans p'))) σ ((p1.trans (p2.trans p4)).sl R.env)⟩
/-- for -/
theorem s_for {t : Tg} {it : MP.It} {b : Sms} {tg iter : Expr} {body : List Stmt} {pos : Pos} (hp : PassesOwn (model X.prog X.w) X.A X.env X.xe) (o : Okx G k X) (hi : PIi G X tg iter it) (hg : PG X tg (gR X.K X.mg t)) (hb : PBi G X body b) (hs : ∀ x, foldedSetIterable iter X.env x = pure x) :
    PSi G X (.For tg iter body [] pos) (.for_ t it b) := by
  refine PS.imp (ps_for hp o.calm hi hg hb hs) fun D σ H h => ?_
  obtain ⟨g, r, s, f, s', R, e, k⟩ := h
  rw [exS] at e
  obtain ⟨w, s1, e1, e⟩ := bnd_eq e
  refine ⟨g, r, s, w, s1, R, e1, fun g1 J H1 R1 p1 wk => ?_⟩
  refine ⟨fun i m σ' H' => m = w.1.length - i ∧ i ≤ w.1.length ∧ ∃ gg rr st, StR X.K X.mg gg rr st σ' H' ∧ Stp g1 H1 gg H' ∧ turns w.2 (fun v r => bindT t v r) (exB G b) (w.1.drop i) rr st = some (f, s'),
    ⟨w.1.length, by simp, Nat.zero_le _, g1, r, s1, ⟨R1, p1.sl R.env⟩, Stp.refl _ _, by simpa using e⟩, ?_⟩
  rintro i m σ2 H2 ⟨rfl, hle, gg, rr, st, R2, p2, et⟩
  have kk := k.later (p1.trans p2)
  by_cases hlt : i < w.1.length
  · obtain ⟨x, hx0⟩ : ∃ x, w.1[i]? = some x := ⟨w.1[i], List.getElem?_eq_getElem hlt⟩
    have hdrop : w.1.drop i = x :: w.1.drop (i + 1) := by
      rw [List.drop_eq_getElem_cons hlt]
      rw [List.getElem?_eq_getElem hlt] at hx0
      cases hx0
      rfl
    rw [hdrop] at et
    unfold turns at et
    split at et
    · rename_i hok
      obtain ⟨r1, b1, et⟩ := Option.bind_eq_some_iff.mp et
      obtain ⟨fb, sa, eb, et⟩ := bnd_eq et
      obtain ⟨q1, q2⟩ := wk.go gg st H2 i x p2.fr p2.pre R2.st (okGb_ok hok) hx0
      refine .inr ⟨q1, fun σ' H' => ∃ gg rr st, StR X.K X.mg gg rr st σ' H' ∧ Stp g1 H1 gg H' ∧ turns w.2 (fun v r => bindT t v r) (exB G b) (w.1.drop (i + 1)) rr st = some (f, s'), fun σ' H' hh => ⟨_, by omega, rfl, by omega, hh⟩, fun y H5 hy => ?_⟩
      obtain ⟨g5, R5, p5, ry⟩ := q2 y H5 hy
      refine ⟨g5, rr, st, x, r1, ⟨R5, p5.sl R2.env⟩, ry, b1, fun σ' l' ch' => ?_⟩
      refine ⟨g5, r1, st, fb, sa, ⟨R5, l'⟩, eb, fun g6 H6 R6 p6 => ?_⟩
      have pall := p2.trans (p5.trans p6)
      cases fb with
      | nx r2 => exact fun σ6 l6 => ⟨g6, r2, sa, ⟨R6, l6⟩, pall, et⟩
      | ct r2 => exact fun σ6 l6 => ⟨g6, r2, sa, ⟨R6, l6⟩, pall, et⟩
      | bk r2 =>
        cases et
        exact fun σ6 l6 => kk g6 H6 R6 (p5.trans p6) σ6 l6
      | rt v =>
        cases et
        exact fun w6 r6 => kk g6 H6 R6 (p5.trans p6) w6 r6
    · cases et
  · have hi2 : i = w.1.length := by omega
    rw [hi2, List.drop_length] at et
    unfold turns at et
    split at et
    · rename_i hok
      cases et
      exact .inl ⟨wk.stop gg _ H2 i p2.fr p2.pre R2.st (okGb_ok hok) (by omega), kk gg H2 R2.st (Stp.refl _ _) σ2 R2.env⟩
    · cases et
theorem s_while {c : Ex} {b : Sms} {ce : Expr} {body : List Stmt} {pos : Pos} (hp : PassesOwn (model X.prog X.w) X.A X.env X.xe) (hc : PTi G X ce c) (hb : PBi G X body b) : PSi G X (.While ce body [] pos) (.while_ c b) := by
  refine PS.imp (ps_while hp hc hb) fun D σ H h => ?_
  obtain ⟨g, r, s, f, s', R, e, k⟩ := h
  rw [exS] at e
  refine ⟨fun m σ' H' => ∃ gg rr st, StR X.K X.mg gg rr st σ' H' ∧ Stp g H gg H' ∧ whl (evE G c) (exB G b) m rr st = some (f, s'), ⟨_, g, r, s, R, Stp.refl _ _, e⟩, ?_⟩
  rintro m σ2 H2 ⟨gg, rr, st, R2, p2, et⟩
  have kk := k.later p2
  cases m with
  | zero => cases et
  | succ n =>
    unfold whl at et
    obtain ⟨bv, s1, e1, et⟩ := bnd_eq et
    split at et
    · obtain ⟨fb, s2, e2, et⟩ := bnd_eq et
      refine ⟨gg, rr, st, true, s1, R2, e1, fun g1 H1 R1 p1 => iteT ⟨fun σ' H' => ∃ gg rr st, StR X.K X.mg gg rr st σ' H' ∧ Stp g H gg H' ∧ whl (evE G c) (exB G b) n rr st = some (f, s'), fun σ' H' hh => ⟨n, by omega, hh⟩, ?_⟩⟩
      refine ⟨g1, rr, s1, fb, s2, ⟨R1, p1.sl R2.env⟩, e2, fun g6 H6 R6 p6 => ?_⟩
      have pall := p2.trans (p1.trans p6)
      cases fb with
      | nx r2 => exact fun σ6 l6 => ⟨g6, r2, s2, ⟨R6, l6⟩, pall, et⟩
      | ct r2 => exact fun σ6 l6 => ⟨g6, r2, s2, ⟨R6, l6⟩, pall, et⟩
      | bk r2 =>
        cases et
        exact fun σ6 l6 => kk g6 H6 R6 (p1.trans p6) σ6 l6
      | rt v =>
        cases et
        exact fun w6 r6 => kk g6 H6 R6 (p1.trans p6) w6 r6
    · cases et
      exact ⟨gg, rr, st, false, _, R2, e1, fun g1 H1 R1 p1 => iteF (kk g1 H1 R1 p1 σ2 (p1.sl R2.env))⟩
    · cases et
end
end MP

/-! MP11: the check of statements, and that what fits is what is computed. -/
namespace MP
open PySem PySem.Spec PyProof.Rows L2 RZ

theorem nb {b : Bool} (h : (!b) = true) : b = false := by cases b <;> first | rfl | cases h
def ownB (s : Scope) (t : Str) : Bool := s.names.any fun (n, k) => n == t && (k == .local || k == .cell)
/-- a name that the swap does not take -/
def isLoc (sc : Scope) : Expr → Bool
  | .Name x _ => sc.names.lookup x == some .local
  | _ => false
def capB (sc : Scope) (ts : List Expr) : Bool := ts.any fun t => !(isLoc sc t)
theorem filterMap_lt {α β : Type} {f : α → Option β} : ∀ {l : List α}, (∃ a ∈ l, f a = none) → (l.filterMap f).length < l.length
  | [], ⟨_, h, _⟩ => by cases h
  | x :: l, h => by
    have hle := List.length_filterMap_le f l
    cases e : f x with
    | none =>
      rw [List.filterMap_cons_none e, List.length_cons]
      omega
    | some y =>
      rw [List.filterMap_cons_some e, List.length_cons, List.length_cons]
      have := filterMap_lt (f := f) (l := l) (by
        obtain ⟨a, ha, h2⟩ := h
        rcases List.mem_cons.mp ha with q | q
        · rw [q, e] at h2
          cases h2
        · exact ⟨a, q, h2⟩)
      omega
/-- no exchange of stores -/
def sole (sc : Scope) (tg v : Expr) : Bool := match v with
  | .SetComp _ _ _ _ => false
  | .DictComp _ _ _ _ _ => false
  | .ListComp a b s p => match tg with
    | .Name t pos => !(sc.names.lookup t == some .local && pos.line == (Expr.ListComp a b s p).pos.line && !(ownB s t))
    | .Tuple _ _ _ => true
    | .Subscript _ _ _ => true
    | .Attribute _ _ _ => true
    | _ => false
  | .Tuple vs _ _ => match tg with
    | .Tuple ts _ _ => vs.all (foldedForSure 8) || capB sc ts
    | .List _ _ => false
    | _ => true
  | _ => true
theorem kind_blk {env : Env} (h : env.scope.kind = .function) : env.blockKind = .function := by
  unfold Env.blockKind
  rw [h] <;> rfl
theorem sole_ok {sc : Scope} {env : Env} {tg v : Expr} {line : Nat} (hs : env.scope = sc) (hk : sc.kind = .function) (h : sole sc tg v = true) : swapsWithSole [tg] v line env = pure false ∧ swappedStores [tg] v env = pure none := by
  subst hs
  have hb := kind_blk hk
  constructor
  · cases v with
    | ListComp a b s p =>
      cases tg with
      | Name t pos =>
        have e : swapsWithSole [.Name t pos] (.ListComp a b s p) line env = pure (env.blockKind == .function && env.kindOf t == some .local && pos.line == (Expr.ListComp a b s p).pos.line && !(ownB s t)) := rfl
        rw [e, hb]
        have h' : (!(env.scope.names.lookup t == some .local && pos.line == (Expr.ListComp a b s p).pos.line && !(ownB s t))) = true := h
        have h2 : (env.scope.names.lookup t == some .local && pos.line == (Expr.ListComp a b s p).pos.line && !(ownB s t)) = false := nb h'
        show pure (true && env.scope.names.lookup t == some .local && pos.line == (Expr.ListComp a b s p).pos.line && !(ownB s t)) = pure false
        rw [Bool.true_and, h2]
      | Tuple _ _ _ => rfl
      | Subscript _ _ _ => rfl
      | Attribute _ _ _ => rfl
      | _ => cases h
    | SetComp _ _ _ _ => cases h
    | DictComp _ _ _ _ _ => cases h
    | _ => rfl
  · cases tg with
    | Tuple ts q1 q2 =>
      cases v with
      | Tuple vs q3 q4 =>
        rcases (Bool.or_eq_true _ _).mp (show (vs.all (foldedForSure 8) || capB env.scope ts) = true from h) with hf | hf
        · unfold swappedStores
          simp only [hf]
          simp only [if_true]
          repeat' split
          all_goals rfl
        · unfold swappedStores
          simp only []
          split
          · rfl
          split
          · rfl
          have hlt : ∀ {f : Expr → Option Str}, (∀ t, isLoc env.scope t = false → f t = none) → (ts.filterMap f).length < ts.length := fun {f} hh => filterMap_lt (by
            obtain ⟨t, ht, q⟩ := List.any_eq_true.mp hf
            exact ⟨t, ht, hh t (by simpa using q)⟩)
          split
          · rfl
          · rename_i hno
            refine absurd ?_ hno
            rw [Bool.or_eq_true]
            left
            refine bne_iff_ne.mpr (Nat.ne_of_lt (hlt fun t ht => ?_))
            cases t <;> first | rfl | skip
            rename_i id pos
            have hk2 : (env.kindOf id == some .local) = false := ht
            show (if (env.kindOf id == some .local && _) = true then some id else none) = none
            rw [hk2]
            rfl
      | _ => rfl
    | List ts q =>
      cases v with
      | Tuple vs q3 q4 => cases h
      | _ => rfl
    | _ => rfl
def swB (sc : Scope) (t : Str) (tl vl : Nat) (s : Scope) : Bool := sc.names.lookup t == some .local && tl == vl && !(ownB s t)
theorem swB_ok {sc : Scope} {env : Env} {t : Str} {pos p : Pos} {a : Expr} {b : List Comprehension} {s : Scope} {line : Nat} (hs : env.scope = sc) (hk : sc.kind = .function) (h : swB sc t pos.line (Expr.ListComp a b s p).pos.line s = true) :
    swapsWith (.ListComp a b s p) (some (.Name t pos)) line env = pure true := by
  subst hs
  have hb := kind_blk hk
  have e : swapsWith (.ListComp a b s p) (some (.Name t pos)) line env = pure (env.blockKind == .function && env.kindOf t == some .local && pos.line == (Expr.ListComp a b s p).pos.line && !(ownB s t)) := rfl
  rw [e, hb]
  show pure (true && env.scope.names.lookup t == some .local && pos.line == (Expr.ListComp a b s p).pos.line && !(ownB s t)) = pure true
  unfold swB at h
  rw [Bool.true_and, h]
/-- a, b = x, y that stores from the right -/
def parB (vs : List Expr) : Bool := !(vs.all (foldedForSure 8)) && !(vs.all (constantsAlone 8))
theorem parB_ok {sc : Scope} {env : Env} {x y : Str} {px py pt : Pos} {kt k2 : Nat} {pt2 : Pos} {a b : Expr} (hs : env.scope = sc) (hk : sc.kind = .function) (hx : sc.names.lookup x = some .local) (hy : sc.names.lookup y = some .local) (hp : (px.line == py.line) = true) (hxy : (x == y) = false)
    (h1 : notStar a = true) (h2 : notStar b = true) (h : parB [a, b] = true) : swappedStores [.Tuple [.Name x px, .Name y py] kt pt] (.Tuple [a, b] k2 pt2) env = pure (some [x, y]) := by
  subst hs
  have hb := kind_blk hk
  unfold parB at h
  rw [Bool.and_eq_true] at h
  have f1 : [a, b].all (foldedForSure 8) = false := nb h.1
  have f2 : [a, b].all (constantsAlone 8) = false := nb h.2
  have hp' : py.line = px.line := by simpa using (beq_iff_eq.mp hp).symm
  have hxy' : ¬ (x = y) := by simpa using hxy
  have kx : env.kindOf x = some .local := hx
  have ky : env.kindOf y = some .local := hy
  have s1 : ∀ {f : Expr → Bool}, (f a = false) → (f b = false) → [a, b].any f = false := fun {f} q1 q2 => by simp [q1, q2]
  unfold swappedStores
  simp only []
  rw [hb]
  refine (if_neg (show ¬ (false = true) from Bool.false_ne_true)).trans ?_
  refine (if_neg (by rw [s1 (by cases a <;> first | rfl | cases h1) (by cases b <;> first | rfl | cases h2)]; exact Bool.false_ne_true)).trans ?_
  generalize hL : List.filterMap _ _ = L
  have hL' : L = [x, y] := by
    rw [← hL]
    have l1 : (Expr.Name x px).pos.line = px.line := rfl
    simp [List.filterMap, kx, ky, hp', l1]
  subst hL'
  have e1 : ([x, y] : List Str).eraseDups = [x, y] := by
    have hyx : (y == x) = false := by simpa using fun z : y = x => hxy' z.symm
    simp [List.eraseDups, List.eraseDupsBy, List.eraseDupsBy.loop, hyx]
  rw [e1, f1, f2]
  rfl
def notLc : Expr → Bool
  | .ListComp _ _ _ _ => false
  | .SetComp _ _ _ _ => false
  | .DictComp _ _ _ _ _ => false
  | _ => true
theorem notLc_ok {e : Expr} {line : Nat} {env : Env} (h : notLc e = true) : swapsWith e none line env = pure false := by
  cases e <;> first | rfl | cases h
section
variable (con : Str → Option PyData) (N : List Str)
mutual
def chS (sc : Scope) : Sm' → Stmt → Bool
  | .asg t p, st => match st with
    | .Assign [tg] e _ => notStar tg && chT N sc false t tg && chE con N sc p e && (sole sc tg e || (match t, p, tg, e with
      | .name i, .comp _ _ _ _ _ _, .Name y py, .ListComp a b s q => N[i]? == some y && swB sc y py.line (Expr.ListComp a b s q).pos.line s
      | _, _, _, _ => false))
    | _ => false
  | .par i j a b, st => match st with
    | .Assign [.Tuple [.Name x px, .Name y py] _ _] (.Tuple [e1, e2] _ _) _ => N[i]? == some x && N[j]? == some y && i != j && sc.names.lookup x == some .local && sc.names.lookup y == some .local && px.line == py.line && x != y &&
        notStar e1 && notStar e2 && parB [e1, e2] && chE con N sc a e1 && chE con N sc b e2
    | _ => false
  | .asgI o i p, st => match st with
    | .Assign [.Subscript eo ei q] e _ => notSlice ei && sole sc (.Subscript eo ei q) e && chE con N sc o eo && chE con N sc i ei && chE con N sc p e
    | _ => false
  | .asgF _ _ _, _ => false
  | .aug i o p, st => match st with
    | .AugAssign (.Name x _) op e _ => N[i]? == some x && locB sc false x && augB o op && chE con N sc p e
    | _ => false
  | .augI o i q p, st => match st with
    | .AugAssign (.Subscript eo ei _) op e _ => notSlice ei && augB q op && chE con N sc o eo && chE con N sc i ei && chE con N sc p e
    | _ => false
  | .augF _ _ _ _, _ => false
  | .ex p, st => match st with
    | .Expr e _ => notLc e && chE con N sc p e
    | _ => false
  | .ret p, st => match st with
    | .Return (some e) _ => chE con N sc p e
    | _ => false
  | .retN, st => match st with
    | .Return none _ => true
    | _ => false
  | .ifs c a b, st => match st with
    | .If e as bs _ => tstB e && chE con N sc c e && chB sc a as && chB sc b bs
    | _ => false
  | .for_ t it b, st => match st with
    | .For tg iter body [] _ => notSet iter && chI con N sc tg it iter && chT N sc false t tg && chB sc b body
    | _ => false
  | .while_ c b, st => match st with
    | .While e body [] _ => tstB e && chE con N sc c e && chB sc b body
    | _ => false
  | .brk, st => match st with
    | .Break _ => true
    | _ => false
  | .cnt, st => match st with
    | .Continue _ => true
    | _ => false
  | .pass, st => match st with
    | .Pass _ => true
    | .Expr (.Constant (.str _) _ _) _ => true
    | _ => false
  | .never, _ => true
def chB (sc : Scope) : Sms → List Stmt → Bool
  | .nil, sts => sts.isEmpty
  | .cons a as, sts => match sts with
    | st :: sts => chS sc a st && chB sc as sts
    | [] => false
end
end

/-- where the check of a body was made -/
structure AtS (G : Cn) (k : Nat) (N : List Str) (sc : Scope) (X : Cx) : Prop where
  at_ : At G k N sc X
  fn : ∀ x, X.fn x = true
  own : PassesOwn (model X.prog X.w) X.A X.env X.xe
  kind : sc.kind = .function
section
variable {G : Cn} {k : Nat} {N : List Str}
theorem AtS.loc {sc : Scope} {X : Cx} (A : AtS G k N sc X) {x : Str} (h : locB sc false x = true) : Loc X.env.scope x := by
  unfold locB at h
  rw [Bool.or_eq_true, Bool.and_eq_true] at h
  rw [A.at_.hs]
  rcases h with h | ⟨_, h⟩
  · exact .inl (by simpa using h)
  · exact .inr (by simpa using h)
mutual
theorem sndS : ∀ (p : Sm') (st : Stmt) {sc : Scope} {X : Cx}, AtS G k N sc X → chS G.con N sc p st = true → PSi G X st p
  | .asg t p, st, sc, X, A, h => by
    unfold chS at h
    split at h
    · rename_i tg e pos
      simp only [Bool.and_eq_true, Bool.or_eq_true] at h
      obtain ⟨⟨⟨h1, h2⟩, h3⟩, h4⟩ := h
      have hg := sndT A.at_.ok.calm A.at_.ok.nd A.at_.hN A.at_.hs (blk := false) (fun _ x => A.fn x) t tg h2
      rcases h4 with h4 | h4
      · obtain ⟨q1, q2⟩ := sole_ok (line := pos.line) A.at_.hs A.kind h4
        exact s_asg (sndE p e A.at_ h3).1 hg q1 q2 h1
      · split at h4
        · rename_i i z own tt it c el y py elt gens scp q
          simp only [Bool.and_eq_true, beq_iff_eq] at h4
          unfold chE at h3
          split at h3
          · rename_i elt tgE iter ifs asy scope q2 heq
            cases heq
            simp only [Bool.and_eq_true, beq_iff_eq, List.all_eq_true] at h3
            obtain ⟨⟨⟨⟨⟨⟨⟨g1, g2⟩, g3⟩, g4⟩, g5⟩, g6⟩, g7⟩, g8⟩ := h3
            subst g1
            have hsw : swapsWith (.ListComp elt [⟨tgE, iter, ifs, 0⟩] scp q) (some (.Name y py)) pos.line X.env = pure true := swB_ok A.at_.hs A.kind h4.2
            have hyl : X.env.scope.names.lookup y = some .local := by
              rw [A.at_.hs]
              have := h4.2
              unfold swB at this
              simp only [Bool.and_eq_true, beq_iff_eq] at this
              exact this.1.1
            have ok : BlkOk X.N X.env.scope scp (ownOf N own) := by
              rw [A.at_.hN, A.at_.hs]
              exact blkOk_by g2
            have hown : (ownOf N own).map (·.2) = own := by
              unfold ownOf
              rw [List.map_map]
              show own.map (fun i => i) = own
              simp
            refine PS.imp (ps_setLc (i := i) (te := TIe X.K X.mg (evE G el)) (tt := TIt X.K X.mg (evC G c)) (g := gR X.K X.mg tt) A.at_.ok.calm A.at_.ok.nd (by rw [A.at_.hN]; exact h4.1) hyl hsw (sndI it tgE iter A.at_ g5) ok (fun s H C cl fp => ?_) (fun s H C cl fp => sndC c ifs (A.at_.blk s H C cl fp) g7) (fun s H C cl fp => (sndE el elt (A.at_.blk s H C cl fp) g8).1) (folded_of g4)) fun D σ H hh => ?_
            · have B := A.at_.blk (scope := scp) s H C cl fp
              exact sndT B.ok.calm B.ok.nd B.hN B.hs (fun z => by cases z) tt tgE g6
            · exact read_comp hown (fun i hi => by simpa using g3 i hi) (tie_mono (read_asg hh) fun x H q => gName_of q)
          · cases h3
        · cases h4
    · cases h
  | .par i j a b, st, sc, X, A, h => by
    unfold chS at h
    split at h
    · rename_i x px y py kt pt e1 e2 k2 pt2 pos
      simp only [Bool.and_eq_true, beq_iff_eq, bne_iff_ne] at h
      obtain ⟨⟨⟨⟨⟨⟨⟨⟨⟨⟨⟨h1, h2⟩, h3⟩, h4⟩, h5⟩, h6⟩, h7⟩, h8⟩, h9⟩, h10⟩, h11⟩, h12⟩ := h
      have hp := parB_ok (kt := kt) (k2 := k2) (pt := pt) (pt2 := pt2) A.at_.hs A.kind h4 h5 (by simpa using h6) (by simpa using h7) h8 h9 h10
      exact s_par A.at_.ok (by rw [A.at_.hN]; exact h1) (by rw [A.at_.hN]; exact h2) h3 (by rw [A.at_.hs]; exact h4) (by rw [A.at_.hs]; exact h5) (c_cons h8 (sndE a e1 A.at_ h11).1 (c_cons h9 (sndE b e2 A.at_ h12).1 c_nil)) hp
    · cases h
  | .asgI o i p, st, sc, X, A, h => by
    unfold chS at h
    split at h
    · rename_i eo ei q e pos
      simp only [Bool.and_eq_true] at h
      obtain ⟨⟨⟨⟨h1, h2⟩, h3⟩, h4⟩, h5⟩ := h
      obtain ⟨q1, q2⟩ := sole_ok (line := pos.line) A.at_.hs A.kind h2
      exact s_asgI (sndE p e A.at_ h5).1 (sndE o eo A.at_ h3).1 (sndE i ei A.at_ h4).1 h1 q1 q2
    · cases h
  | .asgF _ _ _, st, sc, X, A, h => by unfold chS at h; cases h
  | .aug i o p, st, sc, X, A, h => by
    unfold chS at h
    split at h
    · simp only [Bool.and_eq_true, beq_iff_eq] at h
      obtain ⟨⟨⟨h1, h2⟩, h3⟩, h4⟩ := h
      exact s_aug A.at_.ok (by rw [A.at_.hN]; exact h1) (A.loc h2) (.inl (A.fn _)) h3 (sndE p _ A.at_ h4).1
    · cases h
  | .augI o i q p, st, sc, X, A, h => by
    unfold chS at h
    split at h
    · simp only [Bool.and_eq_true] at h
      obtain ⟨⟨⟨⟨h1, h2⟩, h3⟩, h4⟩, h5⟩ := h
      exact s_augI (sndE o _ A.at_ h3).1 (sndE i _ A.at_ h4).1 h1 h2 (sndE p _ A.at_ h5).1
    · cases h
  | .augF _ _ _ _, st, sc, X, A, h => by unfold chS at h; cases h
  | .ex p, st, sc, X, A, h => by
    unfold chS at h
    split at h
    · simp only [Bool.and_eq_true] at h
      exact s_ex (sndE p _ A.at_ h.2).1 (notLc_ok h.1)
    · cases h
  | .ret p, st, sc, X, A, h => by
    unfold chS at h
    split at h
    · exact s_ret (sndE p _ A.at_ h).1
    · cases h
  | .retN, st, sc, X, A, h => by
    unfold chS at h
    split at h
    · exact s_retN
    · cases h
  | .ifs c a b, st, sc, X, A, h => by
    unfold chS at h
    split at h
    · simp only [Bool.and_eq_true] at h
      obtain ⟨⟨⟨h1, h2⟩, h3⟩, h4⟩ := h
      exact s_ifs ((sndE c _ A.at_ h2).2 h1) (sndSs a _ A h3) (sndSs b _ A h4)
    · cases h
  | .for_ t it b, st, sc, X, A, h => by
    unfold chS at h
    split at h
    · simp only [Bool.and_eq_true] at h
      obtain ⟨⟨⟨h1, h2⟩, h3⟩, h4⟩ := h
      exact s_for A.own A.at_.ok (sndI it _ _ A.at_ h2) (sndT A.at_.ok.calm A.at_.ok.nd A.at_.hN A.at_.hs (blk := false) (fun _ x => A.fn x) t _ h3) (sndSs b _ A h4) (folded_of h1)
    · cases h
  | .while_ c b, st, sc, X, A, h => by
    unfold chS at h
    split at h
    · simp only [Bool.and_eq_true] at h
      obtain ⟨⟨h1, h2⟩, h3⟩ := h
      exact s_while A.own ((sndE c _ A.at_ h2).2 h1) (sndSs b _ A h3)
    · cases h
  | .brk, st, sc, X, A, h => by
    unfold chS at h
    split at h
    · exact s_brk
    · cases h
  | .cnt, st, sc, X, A, h => by
    unfold chS at h
    split at h
    · exact s_cnt
    · cases h
  | .pass, st, sc, X, A, h => by
    unfold chS at h
    split at h
    · exact s_pass
    · exact s_doc
    · cases h
  | .never, st, sc, X, A, h => s_never
theorem sndSs : ∀ (p : Sms) (sts : List Stmt) {sc : Scope} {X : Cx}, AtS G k N sc X → chB G.con N sc p sts = true → PBi G X sts p
  | .nil, sts, sc, X, A, h => by
    unfold chB at h
    cases sts with
    | nil => exact s_nil
    | cons a b => cases h
  | .cons a as, sts, sc, X, A, h => by
    unfold chB at h
    split at h
    · simp only [Bool.and_eq_true] at h
      exact s_cons (sndS a _ A h.1) (sndSs as _ A h.2)
    · cases h
end
end
end MP

/-! MP12: defs, their levels, the law's end. -/
namespace MP
open PySem PySem.Spec PyProof.Rows L2 RZ

section
variable {K : PySem.W.Frag} {mg : Str → Option Value} {g g' : Gh} {H H' : Hp} {s s' : Sto}
/-- a call that sees nothing of the store leaves it as it is -/
theorem RlS.back (h : RlS K mg g s H) (p : Stp ⟨g.F, []⟩ H g' H') (q : Same g'.F H') : RlS K mg ⟨g'.F, g.ph⟩ s H' ∧ Stp g H ⟨g'.F, g.ph⟩ H' := by
  have keep : ∀ a o, H a = some o → H' a = some o := fun a o e => p.sub a o e (fun z => by cases z)
  have non : ∀ a, g.F a = none → H a ≠ none → g'.F a = none := fun a e n => by
    cases z : g'.F a with
    | none => rfl
    | some o =>
      rcases p.nf a (by rw [z]; simp) with y | y | y
      · exact absurd e y
      · exact absurd y n
      · cases y
  refine ⟨⟨q, h.len, h.nd, fun n a o h1 h2 => ?_⟩, ⟨fun a o e _ => keep a o e, p.fr, fun a e => ?_, List.prefix_refl _, fun a e => .inl e⟩⟩
  · have hn : H a ≠ none := h.there (List.mem_of_getElem? h1)
    exact objR_le (g := g) (g' := ⟨g'.F, g.ph⟩) p.fr (List.prefix_refl _) (fun e => non a e hn) (objR_grow (fun a o e => keep a o e) (h.obj n a o h1 h2))
  · rcases p.nf a e with y | y | y
    · exact .inl y
    · exact .inr (.inl y)
    · cases y
mutual
theorem repV_cut {k : Nat} {v : V} : ∀ {x : Vl}, below k x = true → RepV K g v x → RepV K ⟨g.F, g.ph.take k⟩ v x
  | .d x, _, .d h => .d h
  | .loc n, hb, .loc h => .loc (by
    have hn : n < k := by simpa [below] using hb
    show (g.ph.take k)[n]? = _
    rw [List.getElem?_take_of_lt hn]
    exact h)
  | .mix vs, hb, .mix h a => .mix h (repVs_cut (by simpa [below] using hb) a)
theorem repVs_cut {k : Nat} {ws : List V} : ∀ {xs : List Vl}, below.belows k xs = true → RepVs K g ws xs → RepVs K ⟨g.F, g.ph.take k⟩ ws xs
  | [], _, .nil => .nil
  | x :: xs, hb, .cons a r => by
    have hb' : below k x = true ∧ below.belows k xs = true := by simpa [below.belows] using hb
    exact .cons (repV_cut hb'.1 a) (repVs_cut hb'.2 r)
end
theorem fsR_cut {k : Nat} {ys : List (Str × V)} {fs : List (Str × Vl)} (hb : below.belows k (fs.map (·.2)) = true) (h : FsR K g ys fs) : FsR K ⟨g.F, g.ph.take k⟩ ys fs := by
  induction h with
  | nil => exact .nil
  | @cons f v x vs xs a r ih =>
    have hb' : below k x = true ∧ below.belows k (xs.map (·.2)) = true := by simpa [below.belows] using hb
    exact .cons (repV_cut hb'.1 a) (ih hb'.2)
/-- behind a call: what nobody keeps is forgotten -/
theorem RlS.cut (h : RlS K mg g' s' H') (p : Stp g H g' H') {k : Nat} (hk : g.ph.length = k) (hb : (s'.take k).all (belowO k) = true) : RlS K mg ⟨g'.F, g'.ph.take k⟩ (s'.take k) H' ∧ Stp g H ⟨g'.F, g'.ph.take k⟩ H' := by
  have hph : g'.ph.take k = g.ph := by
    obtain ⟨c, hc⟩ := p.pre
    rw [← hc, ← hk, List.take_left']
    rfl
  refine ⟨⟨h.fro, ?_, h.nd.sublist (List.take_sublist _ _), fun n a o h1 h2 => ?_⟩, ⟨p.sub, p.fr, p.nf, ?_, fun a e => ?_⟩⟩
  · show (g'.ph.take k).length = (s'.take k).length
    rw [List.length_take, List.length_take, h.len]
  · have hn : n < k := by
      have := (List.getElem?_eq_some_iff.mp h2).1
      rw [List.length_take] at this
      omega
    have hmem : belowO k o = true := List.all_eq_true.mp hb o (List.mem_of_getElem? h2)
    have h1' : (g'.ph.take k)[n]? = some a := h1
    rw [List.getElem?_take_of_lt hn] at h1' h2
    have q := h.obj n a o h1' h2
    cases o with
    | lst vs => obtain ⟨f, xs, q1, q2⟩ := q; exact ⟨f, xs, q1, repVs_cut (by simpa [belowO] using hmem) q2⟩
    | ins c fs => obtain ⟨f, C, dx, ys, q1, q2, q3⟩ := q; exact ⟨f, C, dx, ys, q1, q2, fsR_cut (by simpa [belowO] using hmem) q3⟩
    | dead => exact q
  · show g.ph <+: g'.ph.take k
    rw [hph]
    exact List.prefix_refl _
  · have e' : a ∈ g'.ph.take k := e
    rw [hph] at e'
    exact .inl e'
/-- a call that is lent lists of the store, and tells no list -/
theorem RlS.lend (h : RlS K mg g s H) (p : Stp ⟨H, []⟩ H g' H') : RlS K mg g s H' ∧ Stp g H g H' := by
  have keep : Same H H' := fun a o e => p.sub a o e (fun z => by cases z)
  exact ⟨h.grow keep, ⟨fun a o e _ => keep a o e, Same.refl _, fun a e => .inl e, List.prefix_refl _, fun a e => .inl e⟩⟩
theorem rep_atom {v : V} {x : PyData} (h : atomD x = true) (r : RepV K g' v (.d x)) : RepV K g v (.d x) := by
  cases r with
  | d r =>
    cases r <;> first | (cases h; done) | skip
    · exact .d .non
    · exact .d (.bl _)
    · exact .d (.int _)
    · exact .d (.str _)
theorem sl_start {N : List Str} {ws : List V} {xs : List Vl} (r : RepVs K g ws xs) : Sl K g (L2.start N ws) (xs.map some ++ List.replicate (N.length - xs.length) none) := by
  have hl := r.length
  refine ⟨by unfold L2.start; simp [hl], fun i x e => ?_⟩
  have hi : i < xs.length := by
    by_cases q : i < xs.length
    · exact q
    · rw [List.getElem?_append_right (by simpa using q), List.getElem?_replicate] at e
      split at e <;> cases e
  rw [List.getElem?_append_left (by simpa using hi), List.getElem?_map] at e
  obtain ⟨x', hx, ex⟩ := Option.map_eq_some_iff.mp e
  cases ex
  obtain ⟨v, hv, rv⟩ := r.get hx
  refine ⟨v, ?_, rv⟩
  unfold L2.start
  rw [List.getElem?_append_left (by rw [List.length_map]; omega), List.getElem?_map, hv]
  rfl
end

/-- a body, run at its parameters -/
theorem body_of {G : Cn} {X : Cx} {D : Df} {N : List Str} {ws : List V} {sts : List Stmt} {H : Hp} {Q : VK} (hn : N.length = D.ns) (hb : PBi G X sts D.body) (h : spI X.K X.mg (runD G D) ws H Q) :
    ∃ t, PSs X sts t ∧ t { nx := fun _ H' => Q .non H', rt := Q } (L2.start N ws) H := by
  refine ⟨_, hb, ?_⟩
  obtain ⟨g, s, xs, v, s', R, r, e, k⟩ := h
  unfold runD at e
  split at e
  rotate_left
  · cases e
  rename_i hl
  have hns : ∀ {g : Gh}, RepVs X.K g ws xs → Sl X.K g (L2.start N ws) (xs.map some ++ List.replicate (D.ns - D.np) none) := fun r => by
    rw [← hn, ← hl]
    exact sl_start r
  split at e
  · split at e
    · rename_i ds hd
      split at e
      · rename_i f s1 ef
        split at e
        · rename_i y ey
          cases e
          have r0 : RepVs X.K ⟨g.F, []⟩ ws xs := by
            have hx : xs = ds.map .d := by
              clear hns ef r hl
              revert ds
              induction xs with
              | nil => intro ds hd; cases hd; rfl
              | cons x xs ih =>
                intro ds hd
                cases x with
                | d z =>
                  have hd' : (allD xs).map (z :: ·) = some ds := hd
                  obtain ⟨es, h1, h2⟩ := Option.map_eq_some_iff.mp hd'
                  subst h2
                  rw [ih es h1]
                  rfl
                | loc n => cases hd
                | mix vs => cases hd
            have := r.data hd
            rw [hx]
            exact RepVs.ofData this
          refine ⟨⟨g.F, []⟩, _, [], f, s1, ⟨⟨R.fro, rfl, List.nodup_nil, fun n a o h1 h2 => by simp at h1⟩, hns r0⟩, ef, fun g' H' R' p' => ?_⟩
          obtain ⟨q1, q2⟩ := R.back p' R'.fro
          cases f with
          | nx r2 =>
            cases ey
            exact fun σ' _ => k _ _ H' q1 q2 (.d .non)
          | rt v2 =>
            cases ey
            intro w2 r2
            cases r2 with
            | d r2 => exact k _ _ H' q1 q2 (.d r2)
          | bk r2 => cases ey
          | ct r2 => cases ey
        · cases e
      · cases e
    · split at e
      · rename_i ds hd
        split at e
        · rename_i f s1 ef
          split at e
          · rename_i y ey
            split at e
            · rename_i hat
              cases e
              have dp := allM_dp (fun e r => datV_dp e R r) hd r
              have r0 : RepVs X.K ⟨H, []⟩ ws (ds.map .d) := RepVs.ofData dp
              have h0 : Sl X.K ⟨H, []⟩ (L2.start N ws) ((ds.map Vl.d).map some ++ List.replicate (D.ns - D.np) none) := by
                have := sl_start (N := N) r0
                have e1 : (ds.map Vl.d).length = D.np := by rw [← r0.length, r.length, hl]
                rw [e1, hn] at this
                exact this
              refine ⟨⟨H, []⟩, _, [], f, s1, ⟨⟨Same.refl _, rfl, List.nodup_nil, fun n a o h1 h2 => by simp at h1⟩, h0⟩, ef, fun g' H' R' p' => ?_⟩
              obtain ⟨q1, q2⟩ := R.lend p'
              cases f with
              | nx r2 =>
                cases ey
                exact fun σ' _ => k _ _ H' q1 q2 (.d .non)
              | rt v2 =>
                cases ey
                intro w2 r2
                exact k _ _ H' q1 q2 (rep_atom hat r2)
              | bk r2 => cases ey
              | ct r2 => cases ey
            · cases e
          · cases e
        · cases e
      · cases e
  · split at e
    · rename_i f s1 ef
      split at e
      · rename_i v2 ev
        have e' : trim s.length v2 s1 = (v, s') := Option.some.inj e
        refine ⟨g, _, s, f, s1, ⟨R, hns r⟩, ef, fun g' H' R' p' => ?_⟩
        have fin : ∀ w, RepV X.K g' w v2 → Q w H' := fun w rw' => by
          unfold trim at e'
          split at e'
          · rename_i hb2
            cases e'
            rw [Bool.and_eq_true] at hb2
            obtain ⟨q1, q2⟩ := R'.cut p' R.len hb2.2
            exact k _ w H' q1 q2 (repV_cut hb2.1 rw')
          · cases e'
            exact k _ w H' R' p' rw'
        cases f with
        | nx r2 =>
          cases ev
          exact fun σ' _ => fin _ (.d .non)
        | rt v3 =>
          cases ev
          exact fun w2 r2 => fin w2 r2
        | bk r2 => cases ev
        | ct r2 => cases ev
      · cases e
    · cases e

/-- a def keeps its promise -/
theorem g_of {P : Program} {w : World} {K : PySem.W.Frag} {mg : Str → Option Value} {base : Heap} {k : Nat} {x qual : Str} {st : Stmt} {f : Addr} {fd : FuncData} {N ps : List Str} {sp : List V → Hp → VK → Prop} (F : Fun K x qual st f fd) (S : FnScope N ps (defScope st))
    (hlen : ∀ vs H Q, sp vs H Q → vs.length = ps.length)
    (hbody : ∀ (cdv : Value) (A : Around) (outer : List Env) (s : Shared) (H : Hp) (vs : List V) (Q : VK), Room k (A.deeper (envOfC qual (defScope st) s.heap.objs.size f cdv)) → A.guards = some [] → sp vs H Q →
      ∃ t, PSs (cxOf CX0 P w K mg base N qual (defScope st) f cdv A outer s H E0).nox (defBody st) t ∧ t { nx := fun _ H' => Q .non H', rt := Q } (L2.start N vs) H) : FnG P w K mg base (k + 1) f fd ps sp := by
  obtain ⟨oc, od, kV, doc, pm, an, cdv, ct, osl, rfl, lk, hcd⟩ := F.ex
  refine ⟨hlen, fun A outer sh H args us vs Q room hg env hbind hv hs => ?_⟩
  have inK : K.In sh.heap := env.mod.kin.keeps fun a o z => (env.bs a o z).1
  have noLim : sh.heap.NoLimit := env.mod.nolimit.keeps fun a o z => (env.bs a o z).1
  have kinds : ∀ y ∈ ps.zip us, (defScope st).names.lookup y.1 = some .local ∨ ((defScope st).names.lookup y.1 = some .cell ∧ ((cellsFrom (sh.heap.objs.size + 1) (defScope st).names []).lookup y.1).isSome = true) := by
    intro y hy
    rcases S.par y.1 (List.of_mem_zip (a := y.1) (b := y.2) hy).1 with q | q
    · exact Or.inl q
    · exact Or.inr ⟨q, PySem.W.cellsFrom_some _ _ _ (Or.inl q)⟩
  refine codeAny_call_function room.depth (inK _ _ lk) rfl S.co S.gen rfl (PySem.W.codeRec_of inK hcd) (hbind _ _ _ _ ?_)
  refine wpAny_newFunctionEnv_cells S.kind kinds fun env2 he2 s2 ic => ?_
  subst he2
  refine ⟨noLim.keeps ic.toInCall.keep, codeAny_func ?_⟩
  obtain ⟨t, pt, qt⟩ := hbody cdv A outer sh H vs Q (room.deeper _) hg hs
  have I0 : Inv (cxOf CX0 P w K mg base N qual (defScope st) f cdv A outer sh H E0) [] (L2.start N vs) H s2 := inv_start S room.hd env (hlen _ _ _ hs) hv ic
  refine wpAny_mono (pt.nox.run [] s2 (L2.start N vs) H _ I0 qt) (fun fl s3 h3 => ?_) fun e s3 h3 => h3
  cases fl with
  | ret u =>
    obtain ⟨v, σ3, H3, J, rv, q⟩ := h3
    exact ⟨v, H3, J.os, J.bare, J.base, J.hok, rv, q⟩
  | next =>
    obtain ⟨σ3, H3, J, q⟩ := h3
    exact ⟨V.non, H3, J.os, J.bare, J.base, J.hok, rfl, q⟩
  | brk => exact (h3.choose_spec.choose_spec.2 : False).elim
  | cont => exact (h3.choose_spec.choose_spec.2 : False).elim

/-- what is known of a def -/
structure Ent (K : PySem.W.Frag) (mg : Str → Option Value) (con : Str → Option PyData) (f : Str) (D : Df) : Prop where
  ex : ∃ (fa : Addr) (fd : FuncData) (st : Stmt) (N ps : List Str), mg (bs f) = some (.ref fa) ∧ Fun K (bs f) (bs f) st fa fd ∧ (ko f = false → Binds K fd ps []) ∧ FnScope N ps (defScope st) ∧ ps.length = D.np ∧ N.length = D.ns ∧ chB con N (defScope st) D.body (defBody st) = true
/-- what is known of a call with keywords: n given values, then these names -/
def KEnt (K : PySem.W.Frag) (mg : Str → Option Value) (M : Md) (q : Str × Nat × List Str) : Prop :=
  ∀ D, M.tb q.1 = some D → ∀ is, pickK (q.2.2 ++ D.df.map (·.1)) (D.ps.drop q.2.1) = some is → ∃ (fa : Addr) (fd : FuncData) (st : Stmt) (N ps : List Str) (dV : List V) (dv : List Value), Vals dV dv ∧ DpAll K (fun _ => none) dV (D.df.map (·.2)) ∧ mg (bs q.1) = some (.ref fa) ∧ Fun K (bs q.1) (bs q.1) st fa fd ∧ FnScope N ps (defScope st) ∧ ps.length = D.np ∧ N.length = D.ns ∧ chB M.con N (defScope st) D.body (defBody st) = true ∧
    ∀ (sh : Shared) (uv wv zv : List Value), K.In sh.heap → uv.length = q.2.1 → wv.length = q.2.2.length → takeK (wv ++ dv) is = some zv → BindsTo sh fd ⟨uv, q.2.2.zip wv⟩ (ps.zip (uv ++ zv))
structure Tab (w : World) (K : PySem.W.Frag) (mg : Str → Option Value) (M : Md) : Prop where
  fs : ∀ f D, M.tb f = some D → Ent K mg M.con f D
  con : ∀ x d, M.con x = some d → ∃ u v, mg x = some u ∧ RelV v u ∧ CoV K w v d
  blt : ∀ x ∈ bltNames, mg x = none
  kp : ∀ q ∈ M.kp, KEnt K mg M q

noncomputable def levG (M : Md) : Nat → Cn
  | 0 => ⟨M.con, fun _ _ _ => none, fun _ _ _ _ _ => none, fun _ _ _ => none, fun _ _ _ _ => none, M.most⟩
  | k + 1 => ⟨M.con, lev M (k + 1),
        fun g as ks us s => match M.tb g with
          | some E => if (g, as.length, ks) ∈ M.kp then match pickK (ks ++ E.df.map (·.1)) (E.ps.drop as.length) with
            | some is => match takeK (us ++ E.df.map fun q => Vl.d q.2) is with
              | some ws => lev M (k + 1) g (as ++ ws) s
              | none => none
            | none => none else none
          | none => none,
        fun c as s => bnd (lev M k (c ++ ".__init__") (.loc s.length :: as) (s ++ [.ins c []])) fun v s1 => match v with
          | .d .none => some (.loc s.length, s1)
          | _ => none,
        fun m o as s => match o with
          | .loc n => match s[n]? with
            | some (.ins c fs) => if (fs.lookup m).isNone then lev M (k + 1) (c ++ "." ++ m) (o :: as) s else none
            | _ => none
          | _ => none,
        M.most⟩
theorem lev_eq {M : Md} {k : Nat} {f : Str} {vs : List Vl} {s : Sto} : lev M (k + 1) f vs s = match M.tb f with
    | some D => runD (levG M k) D vs s
    | none => none := by
  cases k with
  | zero => rw [lev] <;> rfl
  | succ k => rw [lev] <;> rfl
theorem levG_run {M : Md} {k : Nat} : (levG M k).run = lev M k := by
  cases k with
  | zero =>
    funext f vs s
    rw [lev] <;> rfl
  | succ k => rfl
theorem levG_con {M : Md} {k : Nat} : (levG M k).con = M.con := by
  cases k <;> rfl
theorem levG_most {M : Md} {k : Nat} : (levG M k).most = M.most := by
  cases k <;> rfl
theorem levG_runk {M : Md} {k : Nat} {f : Str} {as us : List Vl} {ks : List Str} {s : Sto} {r : Vl × Sto} (h : (levG M k).runk f as ks us s = some r) :
    ∃ D is ws, M.tb f = some D ∧ (f, as.length, ks) ∈ M.kp ∧ pickK (ks ++ D.df.map (·.1)) (D.ps.drop as.length) = some is ∧ takeK (us ++ D.df.map fun q => Vl.d q.2) is = some ws ∧ lev M k f (as ++ ws) s = some r := by
  cases k with
  | zero => cases h
  | succ k =>
    have h' : (match M.tb f with
          | some E => if (f, as.length, ks) ∈ M.kp then match pickK (ks ++ E.df.map (·.1)) (E.ps.drop as.length) with
            | some is => match takeK (us ++ E.df.map fun q => Vl.d q.2) is with
              | some ws => lev M (k + 1) f (as ++ ws) s
              | none => none
            | none => none else none
          | none => none) = some r := h
    split at h'
    · rename_i D hD
      split at h'
      · rename_i hm
        split at h'
        · rename_i is hi
          split at h'
          · rename_i ws hw
            exact ⟨D, is, ws, hD, hm, hi, hw, h'⟩
          · cases h'
        · cases h'
      · cases h'
    · cases h'
theorem spI_congr {K : PySem.W.Frag} {mg : Str → Option Value} {f f' : List Vl → Sto → Option (Vl × Sto)} (h : ∀ vs s, f vs s = f' vs s) : spI K mg f = spI K mg f' := by
  have : f = f' := by
    funext vs s
    exact h vs s
  rw [this]
/-- every def, at every level -/
theorem lev_ok {P : Program} {w : World} {K : PySem.W.Frag} {mg : Str → Option Value} {M : Md} {base : Heap} (T : Tab w K mg M) :
    ∀ (k : Nat) (f : Str) (D : Df), M.tb f = some D → ∀ fa fd st N ps, mg (bs f) = some (.ref fa) → Fun K (bs f) (bs f) st fa fd → FnScope N ps (defScope st) → ps.length = D.np → N.length = D.ns → chB M.con N (defScope st) D.body (defBody st) = true →
      FnG P w K mg base k fa fd ps (spI K mg (lev M k f)) := by
  intro k
  induction k with
  | zero =>
    intro f D hD fa fd st N ps hm F S h1 h2 h3
    have no : ∀ vs H Q, ¬ spI K mg (lev M 0 f) vs H Q := fun vs H Q h => by
      obtain ⟨g, s, xs, v, s', R, r, e, q⟩ := h
      rw [lev] at e
      cases e
    exact ⟨fun vs H Q h => absurd h (no vs H Q), fun A outer s H args us vs Q _ _ _ _ _ h => absurd h (no vs H Q)⟩
  | succ k ih =>
    intro f D hD fa fd st N ps hm F S h1 h2 h3
    have hsp : spI K mg (lev M (k + 1) f) = spI K mg (runD (levG M k) D) := spI_congr fun vs s => by rw [lev_eq, hD]
    rw [hsp]
    refine g_of F S (fun vs H Q h => ?_) fun cdv A outer s H vs Q room hg h => ?_
    · obtain ⟨g, s, xs, v, s', R, r, e, q⟩ := h
      unfold runD at e
      split at e
      · rename_i hl
        rw [r.length, hl, h1]
      · cases e
    · let X := (cxOf CX0 P w K mg base N (bs f) (defScope st) fa cdv A outer s H E0).nox
      have ok : Okx (levG M k) k X := by
        refine ⟨rfl, S.nd, hg, room, fun x d hx => T.con x d (by rw [levG_con] at hx; exact hx), T.blt, fun f2 vs2 s2 v2 s2' hko hr => ?_, fun f2 vs2 ks us s2 v2 s2' hr hul => ?_⟩
        rotate_left
        · obtain ⟨D2, is, ws, hD2, hm2, hi2, hw2, hr2⟩ := levG_runk hr
          obtain ⟨fa2, fd2, st2, N2, ps2, dV, dv, y1, y2, m1, m2, m4, m5, m6, m7, m8⟩ := T.kp _ hm2 D2 hD2 is hi2
          rw [levG_run]
          exact ⟨fa2, fd2, ps2, is, ws, dV, dv, List.map Prod.snd D2.df, m1, m2.kp, ih f2 D2 hD2 fa2 fd2 st2 N2 ps2 m1 m2 m4 m5 m6 m7, y1, y2, by rw [List.map_map]; exact hw2, hr2, m8⟩
        rw [levG_run] at hr ⊢
        have hk : ∃ D2, M.tb f2 = some D2 := by
          cases k with
          | zero => rw [lev] at hr; cases hr
          | succ j =>
            rw [lev_eq] at hr
            cases q : M.tb f2 with
            | none => rw [q] at hr; cases hr
            | some D2 => exact ⟨D2, rfl⟩
        obtain ⟨D2, hD2⟩ := hk
        obtain ⟨fa2, fd2, st2, N2, ps2, m1, m2, m3, m4, m5, m6, m7⟩ := (T.fs f2 D2 hD2).ex
        exact ⟨fa2, fd2, ps2, m1, m2.kp, ih f2 D2 hD2 fa2 fd2 st2 N2 ps2 m1 m2 m4 m5 m6 m7, m3 hko⟩
      have at_ : AtS (levG M k) k N (defScope st) X := ⟨⟨ok, rfl, rfl⟩, fun _ => rfl, PassesOwn.never, S.kind⟩
      have hb : PBi (levG M k) X (defBody st) D.body := sndSs D.body (defBody st) at_ (by rw [levG_con]; exact h3)
      exact body_of (G := levG M k) (X := X) (D := D) h2 hb h
end MP
namespace MP
open PySem PySem.Spec PyProof.Rows L2 RZ
/-- a def, its facts told -/
theorem ent_of {K : PySem.W.Frag} {h : Heap} {mg : Str → Option Value} {con : Str → Option PyData} {x y : Str} {D : Df} {st : Stmt} {N ps : List Str} {f : Addr} {oc : Value} {od an : Option Addr} {osl : Array (Option Value)} {kV doc pm cdv ct : Value} (hy : bs y = x) (inK : K.In h) (G : h.Ns mainGlobals mg)
    (a : PySem.W.nsIn K mainGlobals x = some (some (.ref f))) (l : K.lookup f = some ⟨oc, od, .func (PySem.W.fnOf x x (defArgs st) (defBody st) (defScope st) .none kV doc pm an cdv ct), osl⟩) (c : PySem.W.codeIn K cdv x = true) (k : PySem.W.keepIn K (.ref f) = true)
    (S : FnScope N ps (defScope st)) (hb : ∀ (kV doc pm : Value) (an : Option Addr) (cdv ct : Value) (us : List Value), us.length = ps.length → bindArgs (PySem.W.fnOf x x (defArgs st) (defBody st) (defScope st) .none kV doc pm an cdv ct) ⟨us, []⟩ = pure (ps.zip us))
    (h1 : ps.length = D.np) (h2 : N.length = D.ns) (h3 : chB con N (defScope st) D.body (defBody st) = true) : Ent K mg con y D := by
  subst hy
  exact ⟨f, _, st, N, ps, PySem.W.mg_of inK G a, fun_mk l c k, fun _ => (fun_mk l c k).binds hb, S, h1, h2, h3⟩
/-- a call with keywords, its facts told -/
theorem kent_of {K : PySem.W.Frag} {h : Heap} {mg : Str → Option Value} {M : Md} {x y : Str} {n : Nat} {ks : List Str} {D : Df} {st : Stmt} {N ps : List Str} {f : Addr} {oc : Value} {od an : Option Addr} {osl : Array (Option Value)} {kV doc pm cdv ct : Value} {js : List Nat} (hy : bs y = x) (inK : K.In h) (G : h.Ns mainGlobals mg)
    (a : PySem.W.nsIn K mainGlobals x = some (some (.ref f))) (l : K.lookup f = some ⟨oc, od, .func (PySem.W.fnOf x x (defArgs st) (defBody st) (defScope st) .none kV doc pm an cdv ct), osl⟩) (c : PySem.W.codeIn K cdv x = true) (k : PySem.W.keepIn K (.ref f) = true)
    (S : FnScope N ps (defScope st)) (hD : M.tb y = some D) (hdf : D.df = []) (hj : pickK ks (D.ps.drop n) = some js)
    (hb : ∀ (kV doc pm : Value) (an : Option Addr) (cdv ct : Value) (us ws zs : List Value), us.length = n → ws.length = ks.length → takeK ws js = some zs → bindArgs (PySem.W.fnOf x x (defArgs st) (defBody st) (defScope st) .none kV doc pm an cdv ct) ⟨us, ks.zip ws⟩ = pure (ps.zip (us ++ zs)))
    (h1 : ps.length = D.np) (h2 : N.length = D.ns) (h3 : chB M.con N (defScope st) D.body (defBody st) = true) : KEnt K mg M (y, n, ks) := by
  subst hy
  intro D2 hD2 is hi
  rw [hD] at hD2
  cases hD2
  rw [hdf, List.map_nil, List.append_nil, hj] at hi
  cases hi
  exact ⟨f, _, st, N, ps, [], [], .nil, by rw [hdf]; exact .nil, PySem.W.mg_of inK G a, fun_mk l c k, S, h1, h2, h3, fun sh uv wv zv _ q1 q2 q3 => .of_eq (hb kV doc pm an cdv ct uv wv zv q1 q2 (by rw [List.append_nil] at q3; exact q3))⟩
/-- a def with parameters by name alone, its facts told -/
theorem ent_ko {K : PySem.W.Frag} {h : Heap} {mg : Str → Option Value} {con : Str → Option PyData} {x y : Str} {D : Df} {st : Stmt} {N ps : List Str} {f : Addr} {oc : Value} {od an : Option Addr} {osl : Array (Option Value)} {kV doc pm cdv ct : Value} (hy : bs y = x) (hko : ko y = true) (inK : K.In h) (G : h.Ns mainGlobals mg)
    (a : PySem.W.nsIn K mainGlobals x = some (some (.ref f))) (l : K.lookup f = some ⟨oc, od, .func (PySem.W.fnOf x x (defArgs st) (defBody st) (defScope st) .none kV doc pm an cdv ct), osl⟩) (c : PySem.W.codeIn K cdv x = true) (k : PySem.W.keepIn K (.ref f) = true)
    (S : FnScope N ps (defScope st)) (h1 : ps.length = D.np) (h2 : N.length = D.ns) (h3 : chB con N (defScope st) D.body (defBody st) = true) : Ent K mg con y D := by
  subst hy
  exact ⟨f, _, st, N, ps, PySem.W.mg_of inK G a, fun_mk l c k, fun q => (by rw [hko] at q; cases q), S, h1, h2, h3⟩
/-- defaults by name: data that stands for good -/
def DfV (K : PySem.W.Frag) (d : Addr) (q : Str × PyData) : Prop := ∃ (v : V) (u : Value), PySem.W.nsIn K d q.1 = some (some u) ∧ RelV v u ∧ Dp K (fun _ => none) v q.2
theorem dfV_str {K : PySem.W.Frag} {d : Addr} {x z : Str} {t : Tok} (a : PySem.W.nsIn K d x = some (some (.str z t))) : DfV K d (x, .str z) := ⟨.str z, _, a, ⟨t, rfl⟩, .str z⟩
theorem dfV_int {K : PySem.W.Frag} {d : Addr} {x : Str} {z : Int} {t : Tok} (a : PySem.W.nsIn K d x = some (some (.int z t))) : DfV K d (x, .int z) := ⟨.int z, _, a, ⟨t, rfl⟩, .int z⟩
theorem dfV_all {K : PySem.W.Frag} {d : Addr} : ∀ {df : List (Str × PyData)}, (∀ q ∈ df, DfV K d q) → ∃ (dV : List V) (dv : List Value), Vals dV dv ∧ DpAll K (fun _ => none) dV (df.map (·.2)) ∧ dv.length = df.length ∧ ∀ q ∈ (df.map (·.1)).zip dv, PySem.W.nsIn K d q.1 = some (some q.2)
  | [], _ => ⟨[], [], .nil, .nil, rfl, fun _ h => by cases h⟩
  | q :: df, h => by
    obtain ⟨v, u, h1, h2, h3⟩ := h q (List.mem_cons_self ..)
    obtain ⟨dV, dv, q1, q2, q3, q4⟩ := dfV_all (df := df) fun p hp => h p (List.mem_cons_of_mem _ hp)
    refine ⟨v :: dV, u :: dv, .cons h2 q1, .cons h3 q2, congrArg Nat.succ q3, fun p hp => ?_⟩
    rcases List.mem_cons.mp (show p ∈ (q.1, u) :: (df.map (·.1)).zip dv from hp) with e | hp
    · rw [e]
      exact h1
    · exact q4 p hp
/-- a call of a def with defaults by name -/
theorem kent_df {K : PySem.W.Frag} {h : Heap} {mg : Str → Option Value} {M : Md} {x y : Str} {n : Nat} {ks : List Str} {D : Df} {st : Stmt} {N ps : List Str} {f d : Addr} {oc : Value} {od an : Option Addr} {osl : Array (Option Value)} {doc pm cdv ct : Value} {js : List Nat} (miss : List Nat) (hy : bs y = x) (inK : K.In h) (G : h.Ns mainGlobals mg)
    (a : PySem.W.nsIn K mainGlobals x = some (some (.ref f))) (l : K.lookup f = some ⟨oc, od, .func (PySem.W.fnOf x x (defArgs st) (defBody st) (defScope st) .none (.ref d) doc pm an cdv ct), osl⟩) (c : PySem.W.codeIn K cdv x = true) (k : PySem.W.keepIn K (.ref f) = true)
    (S : FnScope N ps (defScope st)) (hD : M.tb y = some D) (hj : pickK (ks ++ D.df.map (·.1)) (D.ps.drop n) = some js) (hdf : ∀ q ∈ D.df, DfV K d q)
    (hb : ∀ (doc pm : Value) (an : Option Addr) (cdv ct : Value) (us ws dv zs : List Value), us.length = n → ws.length = ks.length → dv.length = D.df.length → takeK (ws ++ dv) js = some zs →
      KwChain d (miss.filterMap fun i => ((D.df.map (·.1)).zip dv)[i]?) (bindArgs (PySem.W.fnOf x x (defArgs st) (defBody st) (defScope st) .none (.ref d) doc pm an cdv ct) ⟨us, ks.zip ws⟩) (ps.zip (us ++ zs)))
    (h1 : ps.length = D.np) (h2 : N.length = D.ns) (h3 : chB M.con N (defScope st) D.body (defBody st) = true) : KEnt K mg M (y, n, ks) := by
  subst hy
  intro D2 hD2 is hi
  rw [hD] at hD2
  cases hD2
  rw [hj] at hi
  cases hi
  obtain ⟨dV, dv, q1, q2, q3, q4⟩ := dfV_all hdf
  refine ⟨f, _, st, N, ps, dV, dv, q1, q2, PySem.W.mg_of inK G a, fun_mk l c k, S, h1, h2, h3, fun sh uv wv zv iK p1 p2 p3 => BindsTo.of_looks fun _ => KwChain.looks iK (fun q hq => ?_) (hb doc pm an cdv ct uv wv dv zv p1 p2 q3 p3)⟩
  obtain ⟨i, _, hi⟩ := List.mem_filterMap.mp hq
  exact q4 q (List.mem_of_getElem? hi)
theorem tab_fs {K : PySem.W.Frag} {mg : Str → Option Value} {con : Str → Option PyData} {tab : List (Str × Df)} (h : ∀ p ∈ tab, Ent K mg con p.1 p.2) : ∀ f D, tab.lookup f = some D → Ent K mg con f D :=
  fun f D e => h (f, D) (PySem.mem_of_lookup e)
end MP

/-! MP13: the law's end. -/
namespace MP
open PySem PySem.Spec PyProof.Rows L2 RZ

/-- the law's call, from the promise of its def -/
theorem law_end {P : Program} {w : World} {K : PySem.W.Frag} {mg mb : Str → Option Value} {k : Nat} {fa lst : Addr} {fd : FuncData} {x : Str} {sp : List V → Hp → VK → Prop} {sh : Shared} {us : List Value} {ns : List Int}
    (inK : K.In sh.heap) (gns : sh.heap.Ns mainGlobals mg) (bns : sh.heap.Ns builtinsNs mb) (bbt : ∀ x : Str, x ≠ "__name__" → mb x = bootBuiltins x) (nolim : sh.heap.NoLimit) (gens : sh.gens = #[])
    (hobj : sh.heap.get? lst = some { cls := .type "list", data := .seq us.toArray }) (hints : IntsAre us ns) (hsize : ns.length ≤ sizeLine) (room : Room k callerA)
    (F : ∀ base : Heap, K.In base → base.Ns mainGlobals mg → FnG P w K mg base k fa fd [x] sp) (hbind : BindsTo sh fd ⟨[.ref lst], []⟩ [(x, .ref lst)])
    (hsp : ∀ H : Hp, SqL K H lst (ns.map V.int) → sp [.ref lst] H (fun v _ => v = .bl true)) :
    codeAny (model P w) callerA (.call (.ref fa) ⟨[.ref lst], []⟩) (fun r s' => r = .ok (.ret (.bool true)) ∧ OldK sh.heap s'.heap ∧ s'.os = sh.os ∧ AllBare s'.gens) sh := by
  have rv := vals_ints hints
  have lenV := hints.length
  have main : ∀ H : Hp, Only H → SqL K H lst (ns.map V.int) → HOk P w H sh.heap → (∀ a, H a ≠ none → a = lst) → (H lst ≠ none → K.lookup lst = none) →
      codeAny (model P w) callerA (.call (.ref fa) ⟨[.ref lst], []⟩) (fun r s' => r = .ok (.ret (.bool true)) ∧ OldK sh.heap s'.heap ∧ s'.os = sh.os ∧ AllBare s'.gens) sh := by
    intro H only isL hok only1 notK
    have dictNo : ∀ {a : Addr} {o : Obj} {es : Array DictEntry} {ep : Nat}, sh.heap.get? a = some o → o.data = .dict es ep → H a = none := by
      intro a o es ep z1 z2
      cases q : H a with
      | none => rfl
      | some y =>
        obtain rfl := only1 a (by rw [q]; simp)
        rw [hobj] at z1
        cases z1
        have z3 : Data.seq us.toArray _ = Data.dict es ep := z2
        cases z3
    have nsTo : ∀ {a : Addr} {m : Str → Option Value}, sh.heap.Ns a m → (hidT sh.heap H).Ns a m := by
      rintro a m ⟨o, es, ep, z1, z2, z3⟩
      exact ⟨o, es, ep, hidT_get z1 (dictNo z1 z2), z2, z3⟩
    have inKb : K.In (hidT sh.heap H) := by
      intro a o z
      refine hidT_get (inK a o z) ?_
      cases q : H a with
      | none => rfl
      | some y =>
        obtain rfl := only1 a (by rw [q]; simp)
        rw [notK (by rw [q]; simp)] at z
        cases z
    have hmod : Mod K mg (hidT sh.heap H) := by
      refine ⟨inKb, nsTo gns, ⟨mb, nsTo bns, bbt⟩, ?_⟩
      obtain ⟨mc, z1, z2⟩ := nolim
      exact ⟨mc, nsTo z1, z2⟩
    have env : Env0 P w K mg (hidT sh.heap H) callerA [] sh H := by
      refine ⟨rfl, hmod, fun a o z => of_hidT z, Nat.le_of_eq (hidT_size _ _), trivial, ?_, hok, .of_eq gens⟩
      intro a z
      cases z
    have call := (F _ inKb (nsTo gns)).run callerA [] sh H ⟨[.ref lst], []⟩ [.ref lst] [.ref lst] _ room rfl env hbind (.cons rfl .nil) (hsp H isL)
    refine codeAny_mono call fun r s' q => ?_
    cases r with
    | error e => exact (show False from q).elim
    | ok fl =>
      cases fl with
      | next => exact (show False from q).elim
      | brk => exact (show False from q).elim
      | cont => exact (show False from q).elim
      | ret u =>
        obtain ⟨v, H2, z1, z2, un, hok2, rel, isT⟩ := q
        obtain rfl : v = .bl true := isT
        obtain rfl : u = Value.bool true := rel
        refine ⟨rfl, OldK.of_keep ?_, z1, z2⟩
        intro a o z
        cases q : H a with
        | none => exact un.keep a o z q (by intro y; cases y) (by simp)
        | some y =>
          rcases only a with n | ⟨ob, ys, n⟩
          · rw [q] at n
            cases n
          · obtain ⟨y1, _⟩ := hok a _ n
            obtain ⟨y2, _⟩ := hok2 a _ (un.frzs a ob _ n)
            rw [z] at y1
            cases y1
            exact y2
  cases hk : K.lookup lst with
  | some o =>
    have z := inK lst o hk
    rw [hobj] at z
    cases z
    have isL : SqL K (fun _ => none) lst (ns.map V.int) := Or.inr ⟨_, us.toArray, _, hk, rfl, rfl, rfl, by rw [List.size_toArray, lenV]; exact hsize, by simpa using rv⟩
    refine main (fun _ => none) (fun _ => Or.inl rfl) isL (fun a y z => ?_) (fun a z => absurd rfl z) fun z => absurd rfl z
    have z2 : (none : Option HO) = some y := z
    cases z2
  | none =>
    let H1 : Hp := fun a => if a = lst then some (.frz { cls := .type "list", data := .seq us.toArray } (.lst (ns.map V.int))) else none
    have at1 : H1 lst = some (.frz { cls := .type "list", data := .seq us.toArray } (.lst (ns.map V.int))) := if_pos rfl
    have off1 : ∀ a, a ≠ lst → H1 a = none := fun a z => if_neg z
    refine main H1 (fun a => ?_) (Or.inl (Or.inr ⟨_, at1⟩)) (fun a y z => ?_) (fun a z => ?_) fun _ => hk
    · by_cases q : a = lst
      · exact Or.inr ⟨_, _, by rw [q]; exact at1⟩
      · exact Or.inl (off1 a q)
    · by_cases q : a = lst
      · subst q
        rw [at1] at z
        cases z
        exact ⟨hobj, by rw [List.length_map]; exact hsize, us, _, rv, hobj⟩
      · rw [off1 a q] at z
        cases z
    · by_cases q : a = lst
      · exact q
      · exact absurd (off1 a q) z

theorem dp_ints {K : PySem.W.Frag} {F : Hp} : ∀ ns : List Int, DpAll K F (ns.map V.int) (ns.map PyData.int)
  | [] => .nil
  | n :: ns => .cons (.int n) (dp_ints ns)

/-- the goal that the head leaves -/
theorem walk_mp {l : PySem.W.OpenLaw} {n k : Nat} {q : Program} {loose : List Str} {XP : (Str → Option Value) → Heap → Prop} {YP : World → Heap → Prop} {d : DefRec} {K : Params → PySem.W.Frag} {M : Md}
    (hn : l.most = some n) (hn2 : n ≤ sizeLine) (hdf : d.params.defaults = []) (hr : Room k callerA)
    (hY : ∀ (w : World) (h : Heap), YP w h → (K w.params).In h)
    (D : Df) (hD : M.tb d.name = some D) (hD1 : D.np = 1) (hbs : bs d.name = d.name) (hko : ko d.name = false)
    (F : ∀ (w : World) (mg : Str → Option Value) (h : Heap), (K w.params).In h → h.Ns mainGlobals mg → Tab w (K w.params) mg M)
    (law : ∀ ns : List Int, ns.length ≤ n → (∀ z ∈ ns, Builtin.Int.intBits z ≤ 1048576) → ∃ s, lev M k d.name [.d (.list (ns.map .int))] [] = some (.d (.bool true), s)) :
    PySem.W.WalkO q loose XP YP l.row.toRowW d [] (fun f vs => PySem.call f vs) := by
  refine Att.attach_callB hn hdf fun w s₀ sh mg mb fa o pm cd doc lst us ns ground Y ho hd hcd hmg hobj hints hlen hbits hg => ?_
  have inK := hY w _ Y
  have T := F w mg _ inK ground.T.g
  obtain ⟨fa2, fd, st, N, ps, hm2, hF, hB, hS, h1, h2, h3⟩ := (T.fs d.name D hD).ex
  rw [hbs, hmg] at hm2
  cases hm2
  obtain ⟨x, rfl⟩ : ∃ x, ps = [x] := by
    rw [hD1] at h1
    match ps, h1 with
    | [x], _ => exact ⟨x, rfl⟩
  refine law_end (P := l.prog) (sp := spI (K w.params) mg (lev M k d.name)) inK ground.T.g ground.T.b ground.T.builtins ground.T.nolimit hg hobj hints (Nat.le_trans hlen hn2) hr
    (fun base _ _ => lev_ok T k d.name D hD fa fd st N [x] (by rw [hbs]; exact hmg) hF hS h1 h2 h3) (hB hko sh [.ref lst] inK rfl) fun H isL => ?_
  obtain ⟨s, hs⟩ := law ns hlen hbits
  refine ⟨⟨H, []⟩, [], [.d (.list (ns.map .int))], _, s, ⟨Same.refl _, rfl, List.nodup_nil, fun n a o e _ => by simp at e⟩, .cons (.d (.lst isL (dp_ints ns))) .nil, hs, fun g' v H' _ _ r => ?_⟩
  exact rel_bl r
/-! constants of the module -/
theorem con_str {K : PySem.W.Frag} {h : Heap} {mg : Str → Option Value} {x z : Str} {t : Tok} (inK : K.In h) (G : h.Ns mainGlobals mg) (a : PySem.W.nsIn K mainGlobals x = some (some (.str z t))) : ∃ u v, mg x = some u ∧ RelV v u ∧ Dp K (fun _ => none) v (.str z) :=
  ⟨_, .str z, PySem.W.mg_of inK G a, ⟨t, rfl⟩, .str z⟩
theorem con_int {K : PySem.W.Frag} {h : Heap} {mg : Str → Option Value} {x : Str} {z : Int} {t : Tok} (inK : K.In h) (G : h.Ns mainGlobals mg) (a : PySem.W.nsIn K mainGlobals x = some (some (.int z t))) : ∃ u v, mg x = some u ∧ RelV v u ∧ Dp K (fun _ => none) v (.int z) :=
  ⟨_, .int z, PySem.W.mg_of inK G a, ⟨t, rfl⟩, .int z⟩
/-- a pair of texts -/
theorem con_pair {K : PySem.W.Frag} {h : Heap} {mg : Str → Option Value} {x z1 z2 : Str} {t1 t2 : Tok} {T : Addr} {o : Obj} {n : Nat} (inK : K.In h) (G : h.Ns mainGlobals mg) (a : PySem.W.nsIn K mainGlobals x = some (some (.ref T)))
    (l : K.lookup T = some o) (hc : o.cls = .type "tuple") (hd : o.data = .seq #[.str z1 t1, .str z2 t2] n) : ∃ u v, mg x = some u ∧ RelV v u ∧ Dp K (fun _ => none) v (.tuple [.str z1, .str z2]) :=
  ⟨_, .ref T, PySem.W.mg_of inK G a, rfl, .tup (xs := [.str z1, .str z2]) (.inr ⟨o, _, n, l, hc, hd, by show 2 ≤ sizeLine; decide, .cons ⟨t1, rfl⟩ (.cons ⟨t2, rfl⟩ .nil)⟩) (.cons (.str _) (.cons (.str _) .nil))⟩
/-- a dict of two texts at two texts -/
theorem con_dict2 {w : World} {K : PySem.W.Frag} {h : Heap} {mg : Str → Option Value} {x k1 k2 z1 z2 : Str} {t1 t2 u1 u2 : Tok} {h1 h2 : Int} {T : Addr} {n : Nat} (inK : K.In h) (G : h.Ns mainGlobals mg) (a : PySem.W.nsIn K mainGlobals x = some (some (.ref T)))
    (l : K.lookup T = some ⟨.type "dict", none, .dict #[⟨h1, .str k1 t1, .str z1 u1⟩, ⟨h2, .str k2 t2, .str z2 u2⟩] n, #[]⟩) (p1 : h1 = PyData.keyHash w.params k1) (p2 : h2 = PyData.keyHash w.params k2) (low : (T == sysModules) = false) :
    ∃ u v, mg x = some u ∧ RelV v u ∧ CoV K w v (.dict [(.str k1, .str z1), (.str k2, .str z2)]) := by
  refine ⟨_, .ref T, PySem.W.mg_of inK G a, rfl, T, _, n, rfl, ⟨l, ⟨⟨_, _, rfl, p1⟩, ⟨⟨_, _, rfl, p2⟩, trivial⟩⟩, low⟩, fun z => ?_⟩
  have e : PySem.W.nsIn K T z = some (if k1 == z then some (.str z1 u1) else if k2 == z then some (.str z2 u2) else none) := by
    unfold PySem.W.nsIn
    rw [l]
    simp only [List.find?_cons, Value.isStr]
    cases k1 == z with
    | true => rfl
    | false =>
      cases k2 == z with
      | true => rfl
      | false => rfl
  refine ⟨_, e, ?_⟩
  have e2 : dget [(.str k1, .str z1), (.str k2, .str z2)] z = (if k1 == z then some (.str z1) else if k2 == z then some (.str z2) else none) := by
    unfold dget
    simp only [List.find?_cons]
    cases k1 == z with
    | true => rfl
    | false =>
      cases k2 == z with
      | true => rfl
      | false => rfl
  rw [e2]
  cases k1 == z with
  | true => exact ⟨_, .str z1, rfl, ⟨u1, rfl⟩, .str _⟩
  | false =>
    cases k2 == z with
    | true => exact ⟨_, .str z2, rfl, ⟨u2, rfl⟩, .str _⟩
    | false => rfl
theorem con_of {K : PySem.W.Frag} {w : World} {mg : Str → Option Value} {l : List (Str × PyData)} (h : ∀ p ∈ l, ∃ u v, mg p.1 = some u ∧ RelV v u ∧ CoV K w v p.2) : ∀ x d, List.lookup x l = some d → ∃ u v, mg x = some u ∧ RelV v u ∧ CoV K w v d :=
  fun x d e => h (x, d) (PySem.mem_of_lookup e)
end MP

/-! MP14: reckoning what is computed. -/
namespace MP
open PySem PySem.Spec

/-- the module holds this def -/
class Has (M : Md) (x : Str) (D : outParam Df) : Prop where
  tb : M.tb x = some D
theorem run_def {M : Md} {k : Nat} {x : Str} {D : Df} [h : Has M x D] (hk : 1 ≤ k) {vs : List Vl} {s : Sto} : lev M k x vs s = runD (levG M (k - 1)) D vs s := by
  obtain ⟨j, rfl⟩ : ∃ j, k = j + 1 := ⟨k - 1, by omega⟩
  rw [lev_eq, h.tb] <;> rfl

@[simp] theorem bindTs_nil {r : Nv} : bindT.bindTs .nil [] r = some r := rfl
@[simp] theorem bindTs_cons {t ts : Tg} {v : Vl} {vs : List Vl} {r : Nv} : bindT.bindTs (.cons t ts) (v :: vs) r = (bindT t v r).bind fun r1 => bindT.bindTs ts vs r1 := rfl
@[simp] theorem levG_run2 {M : Md} {k : Nat} : (levG M k).run = lev M k := levG_run
@[simp] theorem levG_con2 {M : Md} {k : Nat} : (levG M k).con = M.con := levG_con
@[simp] theorem levG_most2 {M : Md} {k : Nat} : (levG M k).most = M.most := levG_most
end MP
namespace MP
open PySem PySem.Spec
section
variable {s : Sto} {i j : Int} {x y : Str} {a b : Bool} {xs ys : List PyData}
@[simp] theorem ite_andP {p : Prop} [Decidable p] {z : Bool} : (if p then some (Vl.d (.bool z), s) else some (Vl.d (.bool (decide p)), s)) = some (Vl.d (.bool (decide p && z)), s) := by
  by_cases h : p <;> simp [h]
@[simp] theorem ite_orP {p : Prop} [Decidable p] {z : Bool} : (if p then some (Vl.d (.bool (decide p)), s) else some (Vl.d (.bool z), s)) = some (Vl.d (.bool (decide p || z)), s) := by
  by_cases h : p <;> simp [h]
@[simp] theorem ite_norP {p : Prop} [Decidable p] {z : Bool} : (if p then some (Vl.d (.bool z), s) else some (Vl.d (.bool (!decide p)), s)) = some (Vl.d (.bool (!decide p || z)), s) := by
  by_cases h : p <;> simp [h]
@[simp] theorem ite_nandP {p : Prop} [Decidable p] {z : Bool} : (if p then some (Vl.d (.bool (!decide p)), s) else some (Vl.d (.bool z), s)) = some (Vl.d (.bool (!decide p && z)), s) := by
  by_cases h : p <;> simp [h]
@[simp] theorem ite_andB {b z : Bool} : (if b = true then some (Vl.d (.bool z), s) else some (Vl.d (.bool b), s)) = some (Vl.d (.bool (b && z)), s) := by
  cases b <;> rfl
@[simp] theorem ite_orB {b z : Bool} : (if b = true then some (Vl.d (.bool b), s) else some (Vl.d (.bool z), s)) = some (Vl.d (.bool (b || z)), s) := by
  cases b <;> rfl
@[simp] theorem ite_orB2 {b z : Bool} : (if b = false then some (Vl.d (.bool z), s) else some (Vl.d (.bool b), s)) = some (Vl.d (.bool (b || z)), s) := by
  cases b <;> rfl
@[simp] theorem ite_norB {b z : Bool} : (if b = true then some (Vl.d (.bool z), s) else some (Vl.d (.bool (!b)), s)) = some (Vl.d (.bool (!b || z)), s) := by
  cases b <;> rfl
@[simp] theorem ite_nandB {b z : Bool} : (if b = true then some (Vl.d (.bool (!b)), s) else some (Vl.d (.bool z), s)) = some (Vl.d (.bool (!b && z)), s) := by
  cases b <;> rfl
@[simp] theorem ite_nandB2 {b z : Bool} : (if b = false then some (Vl.d (.bool z), s) else some (Vl.d (.bool (!b)), s)) = some (Vl.d (.bool (!b && z)), s) := by
  cases b <;> rfl
/-- behind a test -/
theorem ifs_b {α : Type} {b : Bool} {x y : α} : (match (Vl.d (.bool b)) with
    | .d (.bool true) => x
    | .d (.bool false) => y
    | _ => y) = if b then x else y := by cases b <;> rfl
@[simp] theorem okGb_nil : okGb [] s = true := by
  unfold okGb
  exact @decide_eq_true _ (Classical.propDecidable _) trivial
@[simp] theorem v_add : o2v .add s (.d (.int i)) (.d (.int j)) = some (.d (.int (i + j))) := rfl
@[simp] theorem v_sub : o2v .sub s (.d (.int i)) (.d (.int j)) = some (.d (.int (i - j))) := rfl
theorem v_mul (h : mulOk i j = true) : o2v .mul s (.d (.int i)) (.d (.int j)) = some (.d (.int (i * j))) := by
  show (if mulOk i j then _ else none) = _
  rw [h] <;> rfl
theorem v_fdiv (h : divOk j = true) : o2v .fdiv s (.d (.int i)) (.d (.int j)) = some (.d (.int (i / j))) := by
  show (if divOk j then _ else none) = _
  rw [h] <;> rfl
theorem v_mod (h : 0 < j) : o2v .mod s (.d (.int i)) (.d (.int j)) = some (.d (.int (i % j))) := by
  show (if 0 < j then _ else none) = _
  rw [if_pos h]
theorem v_pow (h : powOk i j = true) : o2v .pow s (.d (.int i)) (.d (.int j)) = some (.d (.int (i ^ j.toNat))) := by
  show (if powOk i j then _ else none) = _
  rw [h] <;> rfl
@[simp] theorem v_lt : o2v .lt s (.d (.int i)) (.d (.int j)) = some (.d (.bool (decide (i < j)))) := rfl
@[simp] theorem v_le : o2v .le s (.d (.int i)) (.d (.int j)) = some (.d (.bool (decide (i ≤ j)))) := rfl
@[simp] theorem v_gt : o2v .gt s (.d (.int i)) (.d (.int j)) = some (.d (.bool (decide (j < i)))) := rfl
@[simp] theorem v_ge : o2v .ge s (.d (.int i)) (.d (.int j)) = some (.d (.bool (decide (j ≤ i)))) := rfl
@[simp] theorem v_eqI : o2v .eq s (.d (.int i)) (.d (.int j)) = some (.d (.bool (decide (i = j)))) := by
  show some (Vl.d (.bool (i == j))) = _
  rw [Bool.beq_eq_decide_eq]
@[simp] theorem v_neI : o2v .ne s (.d (.int i)) (.d (.int j)) = some (.d (.bool (!decide (i = j)))) := by
  show some (Vl.d (.bool (!(i == j)))) = _
  rw [Bool.beq_eq_decide_eq]
@[simp] theorem v_eqB : o2v .eq s (.d (.bool a)) (.d (.bool b)) = some (.d (.bool (a == b))) := rfl
@[simp] theorem v_neB : o2v .ne s (.d (.bool a)) (.d (.bool b)) = some (.d (.bool (!(a == b)))) := rfl
@[simp] theorem v_eqS : o2v .eq s (.d (.str x)) (.d (.str y)) = some (.d (.bool (x == y))) := rfl
@[simp] theorem v_neS : o2v .ne s (.d (.str x)) (.d (.str y)) = some (.d (.bool (!(x == y)))) := rfl
@[simp] theorem v_ixL : o2v .idx s (.d (.list xs)) (.d (.int i)) = (L2.atI xs i).map Vl.d := by
  show L2.atI (xs.map Vl.d) i = _
  unfold L2.atI
  rw [List.length_map]
  cases L2.ixN xs.length i with
  | none => rfl
  | some j => simp
@[simp] theorem v_ixT : o2v .idx s (.d (.tuple xs)) (.d (.int i)) = (L2.atI xs i).map Vl.d := by
  show L2.atI (xs.map Vl.d) i = _
  unfold L2.atI
  rw [List.length_map]
  cases L2.ixN xs.length i with
  | none => rfl
  | some j => simp
theorem v_ixP {n : Nat} {vs : List Vl} (h : s[n]? = some (.lst vs)) : o2v .idx s (.loc n) (.d (.int i)) = L2.atI vs i := by
  show (match seqOf s (.loc n) with
      | some (_, xs) => L2.atI xs i
      | _ => none) = _
  unfold seqOf
  simp only [h]
theorem v_addL {p q : Vl} (h1 : flat s p = some (false, xs)) (h2 : flat s q = some (false, ys)) (h : xs.length + ys.length ≤ sizeLine) : o2v .add s p q = some (.d (.list (xs ++ ys))) := by
  have h3 : (match flat s p, flat s q with
      | some (false, xs), some (false, ys) => if xs.length + ys.length ≤ sizeLine then some (Vl.d (.list (xs ++ ys))) else none
      | _, _ => none) = some (.d (.list (xs ++ ys))) := by
    rw [h1, h2]
    simp only []
    rw [if_pos h]
  cases p with
  | d p =>
    cases p <;> first
      | (cases q with
         | d q => cases q <;> first | exact h3 | (exfalso; revert h2; simp)
         | loc n => exact h3
         | mix n => exact h3)
      | (exfalso; revert h1; simp)
  | loc n => exact h3
  | mix n => exact h3
@[simp] theorem b_len_s (h : x.length ≤ sizeLine) : biv .len s [.d (.str x)] = some (.d (.int x.length)) := by
  show (if x.length ≤ sizeLine then _ else none) = _
  rw [if_pos h]
@[simp] theorem b_len_l : biv .len s [.d (.list xs)] = some (.d (.int xs.length)) := by
  show some (Vl.d (.int (xs.map Vl.d).length)) = _
  rw [List.length_map]
@[simp] theorem b_len_t : biv .len s [.d (.tuple xs)] = some (.d (.int xs.length)) := by
  show some (Vl.d (.int (xs.map Vl.d).length)) = _
  rw [List.length_map]
@[simp] theorem b_min2 : biv .min2 s [.d (.int i), .d (.int j)] = some (.d (.int (min i j))) := by
  show some (Vl.d (.int (if j < i then j else i))) = _
  congr 3
  omega
@[simp] theorem b_max2 : biv .max2 s [.d (.int i), .d (.int j)] = some (.d (.int (max i j))) := by
  show some (Vl.d (.int (if j > i then j else i))) = _
  congr 3
  omega
theorem b_all {bs : List Bool} : biv .all s [.d (.list (bs.map .bool))] = some (.d (.bool (bs.all id))) := by
  show (boolsOf (bs.map .bool)).map (fun bs => Vl.d (.bool (bs.all id))) = _
  rw [boolsOf_map] <;> rfl
theorem b_any {bs : List Bool} : biv .any s [.d (.list (bs.map .bool))] = some (.d (.bool (bs.any id))) := by
  show (boolsOf (bs.map .bool)).map (fun bs => Vl.d (.bool (bs.any id))) = _
  rw [boolsOf_map] <;> rfl
theorem b_sum {ns : List Int} : biv .sum s [.d (.list (ns.map .int))] = some (.d (.int ns.sum)) := by
  show (intsOf (ns.map .int)).map (fun ns => Vl.d (.int ns.sum)) = _
  rw [intsOf_map] <;> rfl
@[simp] theorem b_list_l : biv .list s [.d (.list xs)] = some (.d (.list xs)) := rfl
@[simp] theorem b_list_t : biv .list s [.d (.tuple xs)] = some (.d (.list xs)) := rfl
@[simp] theorem b_tup_l : biv .tuple s [.d (.list xs)] = some (.d (.tuple xs)) := rfl
@[simp] theorem b_tup_t : biv .tuple s [.d (.tuple xs)] = some (.d (.tuple xs)) := rfl
@[simp] theorem b_intB : biv .int s [.d (.bool a)] = some (.d (.int (if a then 1 else 0))) := rfl
@[simp] theorem b_intI : biv .int s [.d (.int i)] = some (.d (.int i)) := rfl
@[simp] theorem isiv_d {z : PyData} {ts : List Ty} : isiv s (.d z) ts = some (.d (.bool (ts.any (tyIs s (.d z))))) := rfl
/-- isinstance of data alone: (int, bool) etc. told by the kind -/
@[simp] theorem newL_t {vs : List Vl} : newL true vs s = (allD vs).map fun xs => (Vl.d (.list xs), s) := rfl
@[simp] theorem newL_f {vs : List Vl} : newL false vs s = some (.loc s.length, s ++ [.lst vs]) := rfl
theorem allD_mapf {α : Type} (f : α → PyData) : ∀ l : List α, allD (l.map fun x => Vl.d (f x)) = some (l.map f)
  | [] => rfl
  | x :: l => by
    show (allD (l.map fun x => Vl.d (f x))).map (f x :: ·) = _
    rw [allD_mapf f l] <;> rfl
/-- the turns of a comprehension that changes nothing -/
theorem turnsC_map {α : Type} {g : List (Nat × List Vl)} {bd : Vl → Option Nv} {c e : Nv → Sto → Option (Vl × Sto)} {φ : α → Vl} {f : α → PyData} (hg : okGb g s = true) :
    ∀ (l : List α), (∀ x ∈ l, ∃ r, bd (φ x) = some r ∧ c r s = some (.d (.bool true), s) ∧ e r s = some (.d (f x), s)) → turnsC g bd c e (l.map φ) s = some (l.map (fun x => Vl.d (f x)), s)
  | [], _ => by
    unfold turnsC
    rw [List.map_nil]
    simp only [hg, if_true, List.map_nil]
  | x :: l, h => by
    obtain ⟨r, h1, h2, h3⟩ := h x (List.mem_cons_self ..)
    rw [List.map_cons]
    unfold turnsC
    simp only [hg, if_true, h1, Option.bind_some, h2, bnd_some, h3, turnsC_map hg l (fun y hy => h y (List.mem_cons_of_mem _ hy)), List.map_cons]
/-- the turns of a for that goes through -/
theorem turns_inv {α : Type} {g : List (Nat × List Vl)} {bd : Vl → Nv → Option Nv} {body : Nv → Sto → Option (Fl × Sto)} {φ : α → Vl} (P : List α → Nv → Sto → Prop) :
    ∀ (post pre : List α) (r : Nv) (s : Sto), P pre r s → (∀ r s, P (pre ++ post) r s → okGb g s = true) →
      (∀ (a : List α) (x : α) (b : List α) (r : Nv) (s : Sto), pre ++ post = a ++ x :: b → pre.length ≤ a.length → P a r s → okGb g s = true ∧ ∃ r1 r2 s2, bd (φ x) r = some r1 ∧ (body r1 s = some (.nx r2, s2) ∨ body r1 s = some (.ct r2, s2)) ∧ P (a ++ [x]) r2 s2) →
      ∃ r' s', turns g bd body (post.map φ) r s = some (.nx r', s') ∧ P (pre ++ post) r' s'
  | [], pre, r, s, h, he, hs => by
    rw [List.append_nil] at he ⊢
    refine ⟨r, s, ?_, h⟩
    rw [List.map_nil]
    unfold turns
    simp only [he r s h, if_true]
  | x :: post, pre, r, s, h, he, hs => by
    obtain ⟨hg, r1, r2, s2, h1, h2, h3⟩ := hs pre x post r s rfl (Nat.le_refl _) h
    have e : pre ++ x :: post = (pre ++ [x]) ++ post := by simp
    obtain ⟨r', s', q1, q2⟩ := turns_inv P post (pre ++ [x]) r2 s2 h3 (by rw [← e]; exact he) (by
      rw [← e]
      exact fun a y b r s q l => hs a y b r s q (by simp at l; omega))
    refine ⟨r', s', ?_, by rw [e]; exact q2⟩
    rw [List.map_cons]
    unfold turns
    simp only [hg, if_true, h1, Option.bind_some]
    rcases h2 with h2 | h2 <;> (rw [h2]; exact q1)
/-- the same from the beginning -/
theorem turns_go {α : Type} {g : List (Nat × List Vl)} {bd : Vl → Nv → Option Nv} {body : Nv → Sto → Option (Fl × Sto)} {φ : α → Vl} (P : List α → Nv → Sto → Prop) (l : List α) (r : Nv) (s : Sto) (h : P [] r s) (he : ∀ r s, P l r s → okGb g s = true)
    (hs : ∀ (a : List α) (x : α) (b : List α) (r : Nv) (s : Sto), l = a ++ x :: b → P a r s → okGb g s = true ∧ ∃ r1 r2 s2, bd (φ x) r = some r1 ∧ (body r1 s = some (.nx r2, s2) ∨ body r1 s = some (.ct r2, s2)) ∧ P (a ++ [x]) r2 s2) :
    ∃ r' s', turns g bd body (l.map φ) r s = some (.nx r', s') ∧ P l r' s' :=
  turns_inv P l [] r s h he fun a x b r s q _ => hs a x b r s q
end
end MP

/-! MP15: a calculus for what is computed: expressions by their values, statements by what is wanted behind them. -/
namespace MP
open PySem PySem.Spec

/-- what is wanted of an end -/
def Wl (Q : Fl → Sto → Prop) (o : Option (Fl × Sto)) : Prop := ∃ f s, o = some (f, s) ∧ Q f s
theorem Wl.mono {Q Q' : Fl → Sto → Prop} {o : Option (Fl × Sto)} (h : Wl Q o) (k : ∀ f s, Q f s → Q' f s) : Wl Q' o := by
  obtain ⟨f, s, e, q⟩ := h
  exact ⟨f, s, e, k f s q⟩
def Sms.app : Sms → Sms → Sms
  | .nil, b => b
  | .cons a as, b => .cons a (Sms.app as b)
section
variable {G : Cn} {r : Nv} {s s1 s2 s3 : Sto} {Q : Fl → Sto → Prop}
theorem exB_app : ∀ (a b : Sms) (r : Nv) (s : Sto), exB G (a.app b) r s = bnd (exB G a r s) fun f s1 => match f with
    | .nx r1 => exB G b r1 s1
    | f => some (f, s1)
  | .nil, b, r, s => by simp [Sms.app]
  | .cons x as, b, r, s => by
    rw [Sms.app, exB, exB]
    cases h : exS G x r s with
    | none => rfl
    | some p =>
      obtain ⟨f, s1⟩ := p
      rw [bnd_some, bnd_some]
      cases f with
      | nx r1 => exact exB_app as b r1 s1
      | rt v => rfl
      | bk r1 => rfl
      | ct r1 => rfl

/-! expressions -/
theorem e_var {i : Nat} {v : Vl} (h : r[i]? = some (some v)) : evE G (.var i) r s = some (v, s) := by rw [evE, h]
theorem e_cst {x : PyData} : evE G (.cst x) r s = some (.d x, s) := by rw [evE]
theorem e_glb {x : Str} {d : PyData} (h : G.con x = some d) (hd : isDct d = false := by rfl) : evE G (.glb x) r s = some (.d d, s) := by
  rw [evE, h]
  simp only [hd, Bool.false_eq_true, if_false]
theorem e_inD {x z : Str} {a : Ex} {kvs : List (PyData × PyData)} (h : evE G a r s = some (.d (.str z), s1)) (h2 : G.con x = some (.dict kvs)) : evE G (.inD a x) r s = some (.d (.bool (dget kvs z).isSome), s1) := by
  rw [evE, h, bnd_some, h2]
theorem e_ixD {x z : Str} {a : Ex} {kvs : List (PyData × PyData)} {d : PyData} (h : evE G a r s = some (.d (.str z), s1)) (h2 : G.con x = some (.dict kvs)) (h3 : dget kvs z = some d) : evE G (.ixD x a) r s = some (.d d, s1) := by
  rw [evE, h, bnd_some, h2]
  simp only []
  rw [h3]
theorem e_catS {a b : Ex} {x y : Vl} {xs ys : List PyData} (h : evE G a r s = some (x, s1)) (h2 : evE G b r s1 = some (y, s2)) (h3 : flat s2 x = some (false, xs)) (h4 : flat s2 y = some (false, ys)) (hz : xs.length + ys.length ≤ sizeLine) : evE G (.catS a b) r s = some (.loc s2.length, s2 ++ [.lst ((xs ++ ys).map .d)]) := by
  rw [evE, h, bnd_some, h2, bnd_some, h3, h4]
  simp only []
  rw [if_pos hz, newL_f]
theorem e_frzM {a : Ex} {vs : List Vl} {ds : List PyData} (h : evE G a r s = some (.mix vs, s1)) (h2 : frzVs s1 vs = some (ds, s2)) : evE G (.frz a) r s = some (.d (.tuple ds), s2) := by
  rw [evE, h, bnd_some]
  unfold frzV
  simp only [h2]
theorem e_skS {z : Str} {a : Ex} (h : evE G a r s = some (.d (.str z), s1)) (hz : z.length ≤ sizeLine) : evE G (.skS a) r s = some (.d (.str (revS z)), s1) := by
  rw [evE, h, bnd_some]
  simp only []
  rw [if_pos hz]
theorem e_o1 {o : O1} {a : Ex} {x v : Vl} (h : evE G a r s = some (x, s1)) (h2 : o1v o x = some v) : evE G (.o1 o a) r s = some (v, s1) := by rw [evE, h, bnd_some, h2]
theorem e_o2 {o : O2} {a b : Ex} {x y v : Vl} (h : evE G a r s = some (x, s1)) (h2 : evE G b r s1 = some (y, s2)) (h3 : o2v o s2 x y = some v) : evE G (.o2 o a b) r s = some (v, s2) := by rw [evE, h, bnd_some, h2, bnd_some, h3]
theorem e_not {a : Ex} {b : Bool} (h : evE G a r s = some (.d (.bool b), s1)) : evE G (.not_ a) r s = some (.d (.bool (!b)), s1) := by rw [evE, h, bnd_some]
theorem e_bop {c : Bool} {as : Exs} {v : Vl} (h : evB G c as r s = some (v, s1)) : evE G (.bop c as) r s = some (v, s1) := by rw [evE, h]
theorem b_one {c b : Bool} {a : Ex} (h : evE G a r s = some (.d (.bool b), s1)) : evB G c (.cons a .nil) r s = some (.d (.bool b), s1) := by
  rw [evB, h, bnd_some]
  rfl
theorem b_and {b z : Bool} {a a2 : Ex} {as : Exs} (h : evE G a r s = some (.d (.bool b), s1)) (h2 : b = true → evB G true (.cons a2 as) r s1 = some (.d (.bool z), s1)) : evB G true (.cons a (.cons a2 as)) r s = some (.d (.bool (b && z)), s1) := by
  rw [evB, h, bnd_some]
  cases b with
  | true => exact h2 rfl
  | false => rfl
theorem b_or {b z : Bool} {a a2 : Ex} {as : Exs} (h : evE G a r s = some (.d (.bool b), s1)) (h2 : b = false → evB G false (.cons a2 as) r s1 = some (.d (.bool z), s1)) : evB G false (.cons a (.cons a2 as)) r s = some (.d (.bool (b || z)), s1) := by
  rw [evB, h, bnd_some]
  cases b with
  | true => rfl
  | false => exact h2 rfl
theorem e_ite {c a b : Ex} {t : Bool} {v w : Vl} (h : evE G c r s = some (.d (.bool t), s1)) (h2 : t = true → evE G a r s1 = some (v, s2)) (h3 : t = false → evE G b r s1 = some (w, s2)) : evE G (.ite c a b) r s = some (if t = true then v else w, s2) := by
  rw [evE, h, bnd_some]
  cases t with
  | true => exact h2 rfl
  | false => exact h3 rfl
theorem e_ites {c a b : Ex} {t : Bool} {v : Vl} (h : evE G c r s = some (.d (.bool t), s1)) (h2 : t = true → evE G a r s1 = some (v, s2)) (h3 : t = false → evE G b r s1 = some (v, s2)) : evE G (.ite c a b) r s = some (v, s2) := by
  rw [evE, h, bnd_some]
  cases t with
  | true => exact h2 rfl
  | false => exact h3 rfl
theorem e_chain {p q : O2} {a b c : Ex} {x y z : Vl} {t u : Bool} (h : evE G a r s = some (x, s1)) (h2 : evE G b r s1 = some (y, s2)) (h3 : o2v p s2 x y = some (.d (.bool t))) (h4 : t = true → evE G c r s2 = some (z, s2)) (h5 : t = true → o2v q s2 y z = some (.d (.bool u))) :
    evE G (.chain p q a b c) r s = some (.d (.bool (t && u)), s2) := by
  rw [evE, h, bnd_some, h2, bnd_some, h3]
  cases t with
  | true =>
    simp only []
    rw [h4 rfl, bnd_some, h5 rfl] <;> rfl
  | false => rfl
theorem e_bi {f : Bi} {as : Exs} {vs : List Vl} {v : Vl} (h : evEs G as r s = some (vs, s1)) (h2 : biv f s1 vs = some v) : evE G (.bi f as) r s = some (v, s1) := by rw [evE, h, bnd_some, h2]
theorem e_isi {a : Ex} {ts : List Ty} {x v : Vl} (h : evE G a r s = some (x, s1)) (h2 : isiv s1 x ts = some v) : evE G (.isi a ts) r s = some (v, s1) := by rw [evE, h, bnd_some, h2]
theorem e_call {M : Md} {k : Nat} {f : Str} {as : Exs} {vs : List Vl} {v : Vl} (h : evEs (levG M k) as r s = some (vs, s1)) (h2 : lev M k f vs s1 = some (v, s2)) : evE (levG M k) (.call f as) r s = some (v, s2) := by rw [evE, h, bnd_some, levG_run, h2]
theorem e_callk {M : Md} {k : Nat} {f : Str} {as zs : Exs} {ks : List Str} {vs us ws : List Vl} {v : Vl} {D : Df} {is : List Nat} [hD : Has M f D] (h : evEs (levG M k) as r s = some (vs, s1)) (h1 : evEs (levG M k) zs r s1 = some (us, s2)) (hk : 1 ≤ k) (hm : (f, vs.length, ks) ∈ M.kp)
    (hi : pickK (ks ++ D.df.map (·.1)) (D.ps.drop vs.length) = some is) (hw : takeK (us ++ D.df.map fun q => Vl.d q.2) is = some ws) (h2 : lev M k f (vs ++ ws) s2 = some (v, s3)) : evE (levG M k) (.callk f as ks zs) r s = some (v, s3) := by
  obtain ⟨j, rfl⟩ : ∃ j, k = j + 1 := ⟨k - 1, by omega⟩
  rw [evE, h, bnd_some, h1, bnd_some]
  show (match M.tb f with
          | some E => if (f, vs.length, ks) ∈ M.kp then match pickK (ks ++ E.df.map (·.1)) (E.ps.drop vs.length) with
            | some is => match takeK (us ++ E.df.map fun q => Vl.d q.2) is with
              | some ws => lev M (j + 1) f (vs ++ ws) s2
              | none => none
            | none => none else none
          | none => none) = some (v, s3)
  rw [hD.tb]
  simp only []
  rw [if_pos hm, hi]
  simp only []
  rw [hw]
  exact h2
theorem es_nil : evEs G .nil r s = some ([], s) := by rw [evEs]
theorem es_cons {a : Ex} {as : Exs} {x : Vl} {xs : List Vl} (h : evE G a r s = some (x, s1)) (h2 : evEs G as r s1 = some (xs, s2)) : evEs G (.cons a as) r s = some (x :: xs, s2) := by rw [evEs, h, bnd_some, h2, bnd_some]
theorem e_tup {as : Exs} {vs : List Vl} {ds : List PyData} (h : evEs G as r s = some (vs, s1)) (h2 : allD vs = some ds) : evE G (.tup as) r s = some (.d (.tuple ds), s1) := by
  rw [evE, h, bnd_some]
  unfold tupV
  rw [h2]
theorem e_lstT {as : Exs} {vs : List Vl} {ds : List PyData} (h : evEs G as r s = some (vs, s1)) (h2 : allD vs = some ds) : evE G (.lst true as) r s = some (.d (.list ds), s1) := by
  rw [evE, h, bnd_some, newL_t, h2] <;> rfl
theorem e_lstF {as : Exs} {vs : List Vl} (h : evEs G as r s = some (vs, s1)) : evE G (.lst false as) r s = some (.loc s1.length, s1 ++ [.lst vs]) := by
  rw [evE, h, bnd_some, newL_f]
theorem e_slL {a : Ex} {lo hi : Ox} {xs : List PyData} {l h : Option Vl} {l' h' : Option Int} (q : evE G a r s = some (.d (.list xs), s1)) (q2 : evO G lo r s1 = some (l, s2)) (q3 : evO G hi r s2 = some (h, s3)) (q4 : optI l = some l') (q5 : optI h = some h') :
    evE G (.sl a lo hi) r s = some (.d (.list (cutD xs l' h')), s3) := by
  rw [evE, q, bnd_some, q2, bnd_some, q3, bnd_some, q4, q5] <;> rfl
theorem e_slT {a : Ex} {lo hi : Ox} {xs : List PyData} {l h : Option Vl} {l' h' : Option Int} (q : evE G a r s = some (.d (.tuple xs), s1)) (q2 : evO G lo r s1 = some (l, s2)) (q3 : evO G hi r s2 = some (h, s3)) (q4 : optI l = some l') (q5 : optI h = some h') :
    evE G (.sl a lo hi) r s = some (.d (.tuple (cutD xs l' h')), s3) := by
  rw [evE, q, bnd_some, q2, bnd_some, q3, bnd_some, q4, q5] <;> rfl
theorem ox_no : evO G .no r s = some (none, s) := by rw [evO]
theorem ox_so {a : Ex} {v : Vl} (h : evE G a r s = some (v, s1)) : evO G (.so a) r s = some (some v, s1) := by rw [evO, h, bnd_some]
theorem c_no : evC G .no r s = some (.d (.bool true), s) := by rw [evC]
theorem c_so {a : Ex} {v : Vl} (h : evE G a r s = some (v, s1)) : evC G (.so a) r s = some (v, s1) := by rw [evC, h]
theorem e_frzD {a : Ex} {x : PyData} (h : evE G a r s = some (.d x, s1)) : evE G (.frz a) r s = some (.d x, s1) := by
  rw [evE, h, bnd_some] <;> rfl
theorem e_frzL {a : Ex} {n : Nat} {vs : List Vl} {ds : List PyData} (h : evE G a r s = some (.loc n, s1)) (h2 : s1[n]? = some (.lst vs)) (h3 : allD vs = some ds) : evE G (.frz a) r s = some (.d (.list ds), s1.set n .dead) := by
  rw [evE, h, bnd_some]
  unfold frzV
  simp only [h2, h3]
theorem e_lm {m : Lm} {o : Ex} {as : Exs} {n : Nat} {zs xs ys vs : List Vl} {v : Vl} (h : evE G o r s = some (.loc n, s1)) (h1 : s1[n]? = some (.lst zs)) (h2 : evEs G as r s1 = some (vs, s2)) (h3 : s2[n]? = some (.lst xs)) (h4 : lmv m xs vs = some (v, ys)) :
    evE G (.lm m o as) r s = some (v, s2.set n (.lst ys)) := by
  rw [evE, h, bnd_some]
  simp only [h1]
  rw [h2, bnd_some]
  simp only [h3, h4]
theorem e_sm {m : Sm} {o : Ex} {as : Exs} {x v : Vl} {vs : List Vl} (h : evE G o r s = some (x, s1)) (h2 : evEs G as r s1 = some (vs, s2)) (h3 : smv m s2 x vs = some v) : evE G (.sm m o as) r s = some (v, s2) := by
  rw [evE, h, bnd_some, h2, bnd_some, h3]
theorem i_seq {a : Ex} {x : Vl} {w : Wk} (h : evE G a r s = some (x, s1)) (h2 : wkOf s1 x = some w) : evI G (.seq a) r s = some (w, s1) := by rw [evI, h, bnd_some, h2]
theorem i_rng1 {a : Ex} {n : Int} (h : evE G a r s = some (.d (.int n), s1)) (h2 : smallI n) : evI G (.rng1 a) r s = some (((List.range n.toNat).map fun (i : Nat) => Vl.d (.int i), []), s1) := by
  rw [evI, h, bnd_some]
  simp only [if_pos h2]
  unfold iota
  simp
theorem i_rng2 {a b : Ex} {m n : Int} (h : evE G a r s = some (.d (.int m), s1)) (h2 : evE G b r s1 = some (.d (.int n), s2)) (h3 : smallI m) (h4 : smallI n) : evI G (.rng2 a b) r s = some (((List.range (n - m).toNat).map fun (i : Nat) => Vl.d (.int (m + (i : Int))), []), s2) := by
  rw [evI, h, bnd_some, h2, bnd_some]
  simp only [if_pos (And.intro h3 h4)]
  rfl
theorem i_enum {a : Ex} {xs : List PyData} (h : evE G a r s = some (.d (.list xs), s1)) : evI G (.enum a) r s = some ((xs.zipIdx.map fun p => Vl.d (.tuple [.int p.2, p.1]), []), s1) := by
  rw [evI, h, bnd_some]
theorem i_rev {a : Ex} {xs : List PyData} (h : evE G a r s = some (.d (.list xs), s1)) : evI G (.rev a) r s = some ((xs.reverse.map .d, []), s1) := by
  rw [evI, h, bnd_some]
theorem i_zipL {a b : Ex} {xs ys : List PyData} (h : evE G a r s = some (.d (.list xs), s1)) (h2 : evE G b r s1 = some (.d (.list ys), s2)) : evI G (.zip a b) r s = some (((xs.zip ys).map fun p => Vl.d (.tuple [p.1, p.2]), []), s2) := by
  rw [evI, h, bnd_some, h2, bnd_some]
theorem i_zipT {a b : Ex} {xs ys : List PyData} (h : evE G a r s = some (.d (.tuple xs), s1)) (h2 : evE G b r s1 = some (.d (.tuple ys), s2)) : evI G (.zip a b) r s = some (((xs.zip ys).map fun p => Vl.d (.tuple [p.1, p.2]), []), s2) := by
  rw [evI, h, bnd_some, h2, bnd_some]
/-- a comprehension that changes nothing -/
theorem e_comp {α : Type} {own : List Nat} {tg : Tg} {it : It} {c : Ox} {e : Ex} {l : List α} {φ : α → Vl} {g : List (Nat × List Vl)} (f : α → PyData) (hi : evI G it r s = some ((l.map φ, g), s1)) (hg : okGb g s1 = true) (hz : l.length ≤ 16000000)
    (h : ∀ x ∈ l, ∃ r1, bindT tg (φ x) (wipeN r own) = some r1 ∧ evC G c r1 s1 = some (.d (.bool true), s1) ∧ evE G e r1 s1 = some (.d (f x), s1)) : evE G (.comp true own tg it c e) r s = some (.d (.list (l.map f)), s1) := by
  rw [evE, hi, bnd_some]
  simp only []
  rw [turnsC_map (f := f) hg l h, bnd_some]
  simp only [List.length_map]
  rw [if_pos ⟨hz, hz⟩, newL_t, allD_mapf] <;> rfl

theorem b_allf {α : Type} {l : List α} {p : α → Bool} : biv .all s [.d (.list (l.map fun x => PyData.bool (p x)))] = some (.d (.bool (l.all p))) := by
  have : (l.map fun x => PyData.bool (p x)) = (l.map p).map .bool := by rw [List.map_map]; rfl
  rw [this, b_all]
  simp
theorem b_anyf {α : Type} {l : List α} {p : α → Bool} : biv .any s [.d (.list (l.map fun x => PyData.bool (p x)))] = some (.d (.bool (l.any p))) := by
  have : (l.map fun x => PyData.bool (p x)) = (l.map p).map .bool := by rw [List.map_map]; rfl
  rw [this, b_any]
  simp
theorem b_sumf {α : Type} {l : List α} {p : α → Int} : biv .sum s [.d (.list (l.map fun x => PyData.int (p x)))] = some (.d (.int (l.map p).sum)) := by
  have : (l.map fun x => PyData.int (p x)) = (l.map p).map .int := by rw [List.map_map]; rfl
  rw [this, b_sum]
/-! statements -/
theorem s_done (h : Q (.nx r) s) : Wl Q (exB G .nil r s) := ⟨_, _, by rw [exB], h⟩
theorem w_asg {t : Tg} {e : Ex} {as : Sms} {v : Vl} {r1 : Nv} (h : evE G e r s = some (v, s1)) (h2 : bindT t v r = some r1) (h3 : Wl Q (exB G as r1 s1)) : Wl Q (exB G (.cons (.asg t e) as) r s) := by
  rw [exB, exS, h, bnd_some, h2]
  exact h3
theorem w_par {i j : Nat} {a b : Ex} {as : Sms} {v w : Vl} (h : evE G a r s = some (v, s1)) (h2 : evE G b r s1 = some (w, s2)) (h3 : Wl Q (exB G as ((r.set i (some v)).set j (some w)) s2)) : Wl Q (exB G (.cons (.par i j a b) as) r s) := by
  rw [exB, exS, h, bnd_some, h2, bnd_some, bnd_some]
  exact h3
theorem w_asgI {o i e : Ex} {as : Sms} {v : Vl} {n j : Nat} {k : Int} {xs : List Vl} (h : evE G e r s = some (v, s1)) (h2 : evE G o r s1 = some (.loc n, s2)) (h3 : evE G i r s2 = some (.d (.int k), s3)) (h4 : s3[n]? = some (.lst xs)) (h5 : L2.ixN xs.length k = some j)
    (h6 : Wl Q (exB G as r (s3.set n (.lst (xs.set j v))))) : Wl Q (exB G (.cons (.asgI o i e) as) r s) := by
  rw [exB, exS, h, bnd_some, h2, bnd_some, h3, bnd_some]
  simp only [h4, h5, bnd_some]
  exact h6
theorem w_aug {i : Nat} {o : O2} {e : Ex} {as : Sms} {x y z : Vl} (h : r[i]? = some (some x)) (h2 : evE G e r s = some (y, s1)) (h3 : augv o x y = some z) (h4 : Wl Q (exB G as (r.set i (some z)) s1)) : Wl Q (exB G (.cons (.aug i o e) as) r s) := by
  rw [exB, exS, h]
  simp only []
  rw [h2, bnd_some, h3]
  exact h4
theorem w_ex {e : Ex} {as : Sms} {v : Vl} (h : evE G e r s = some (v, s1)) (h2 : Wl Q (exB G as r s1)) : Wl Q (exB G (.cons (.ex e) as) r s) := by
  rw [exB, exS, h, bnd_some, bnd_some]
  exact h2
theorem w_ret {e : Ex} {as : Sms} {v : Vl} (h : evE G e r s = some (v, s1)) (h2 : Q (.rt v) s1) : Wl Q (exB G (.cons (.ret e) as) r s) := by
  rw [exB, exS, h, bnd_some, bnd_some]
  exact ⟨_, _, rfl, h2⟩
theorem w_retN {as : Sms} (h2 : Q (.rt (.d .none)) s) : Wl Q (exB G (.cons .retN as) r s) := by
  rw [exB, exS, bnd_some]
  exact ⟨_, _, rfl, h2⟩
theorem w_brk {as : Sms} (h2 : Q (.bk r) s) : Wl Q (exB G (.cons .brk as) r s) := by
  rw [exB, exS, bnd_some]
  exact ⟨_, _, rfl, h2⟩
theorem w_cnt {as : Sms} (h2 : Q (.ct r) s) : Wl Q (exB G (.cons .cnt as) r s) := by
  rw [exB, exS, bnd_some]
  exact ⟨_, _, rfl, h2⟩
theorem w_pass {as : Sms} (h2 : Wl Q (exB G as r s)) : Wl Q (exB G (.cons .pass as) r s) := by
  rw [exB, exS, bnd_some]
  exact h2
theorem w_if {c : Ex} {a b as : Sms} {t : Bool} (h : evE G c r s = some (.d (.bool t), s1)) (h2 : t = true → Wl Q (exB G (a.app as) r s1)) (h3 : t = false → Wl Q (exB G (b.app as) r s1)) : Wl Q (exB G (.cons (.ifs c a b) as) r s) := by
  rw [exB, exS, h, bnd_some]
  cases t with
  | true =>
    have := h2 rfl
    rw [exB_app] at this
    exact this
  | false =>
    have := h3 rfl
    rw [exB_app] at this
    exact this
/-- for, by what stays true -/
theorem w_for {α : Type} {t : Tg} {it : It} {b as : Sms} {l : List α} {φ : α → Vl} {g : List (Nat × List Vl)} (P : List α → Nv → Sto → Prop) (hi : evI G it r s = some ((l.map φ, g), s1)) (h0 : P [] r s1)
    (hs : ∀ (pre : List α) (x : α) (post : List α) (r : Nv) (s : Sto), l = pre ++ x :: post → P pre r s → okGb g s = true ∧ ∃ r1, bindT t (φ x) r = some r1 ∧ Wl (fun f s' => match f with
      | .nx r' => P (pre ++ [x]) r' s'
      | .ct r' => P (pre ++ [x]) r' s'
      | .bk r' => Wl Q (exB G as r' s')
      | .rt v => Q (.rt v) s') (exB G b r1 s))
    (he : ∀ r s, P l r s → okGb g s = true ∧ Wl Q (exB G as r s)) : Wl Q (exB G (.cons (.for_ t it b) as) r s) := by
  rw [exB, exS, hi, bnd_some]
  have key : ∀ (post pre : List α) (r : Nv) (s : Sto), l = pre ++ post → P pre r s → Wl Q (bnd (turns g (fun v r => bindT t v r) (exB G b) (post.map φ) r s) fun f s1 => match f with
      | .nx r1 => exB G as r1 s1
      | f => some (f, s1)) := by
    intro post
    induction post with
    | nil =>
      intro pre r s e p
      rw [List.append_nil] at e
      subst e
      obtain ⟨q1, q2⟩ := he r s p
      rw [List.map_nil]
      unfold turns
      simp only [q1, if_true, bnd_some]
      exact q2
    | cons x post ih =>
      intro pre r s e p
      obtain ⟨q1, r1, q2, f, s', q3, q4⟩ := hs pre x post r s e p
      rw [List.map_cons]
      unfold turns
      simp only [q1, if_true, q2, Option.bind_some, q3, bnd_some]
      cases f with
      | nx r2 => exact ih (pre ++ [x]) r2 s' (by rw [e]; simp) q4
      | ct r2 => exact ih (pre ++ [x]) r2 s' (by rw [e]; simp) q4
      | bk r2 => exact q4
      | rt v => exact ⟨_, _, rfl, q4⟩
  exact key l [] r s1 rfl h0
/-- while, by what stays true, with a measure -/
theorem w_while {c : Ex} {b as : Sms} {m0 : Nat} (P : Nat → Nv → Sto → Prop) (h0 : P m0 r s) (hm : m0 < G.most)
    (hs : ∀ (m : Nat) (r : Nv) (s : Sto), P m r s → ∃ t s1, evE G c r s = some (.d (.bool t), s1) ∧ (t = true → Wl (fun f s' => match f with
      | .nx r' => ∃ m', m' < m ∧ P m' r' s'
      | .ct r' => ∃ m', m' < m ∧ P m' r' s'
      | .bk r' => Wl Q (exB G as r' s')
      | .rt v => Q (.rt v) s') (exB G b r s1)) ∧ (t = false → Wl Q (exB G as r s1))) : Wl Q (exB G (.cons (.while_ c b) as) r s) := by
  rw [exB, exS]
  have key : ∀ (n m : Nat) (r : Nv) (s : Sto), m < n → P m r s → Wl Q (bnd (whl (evE G c) (exB G b) n r s) fun f s1 => match f with
      | .nx r1 => exB G as r1 s1
      | f => some (f, s1)) := by
    intro n
    induction n with
    | zero => intro m r s h; omega
    | succ n ih =>
      intro m r s hmn p
      obtain ⟨t, s1, q1, q2, q3⟩ := hs m r s p
      unfold whl
      rw [q1, bnd_some]
      cases t with
      | false => exact q3 rfl
      | true =>
        obtain ⟨f, s', q4, q5⟩ := q2 rfl
        simp only [q4, bnd_some]
        cases f with
        | nx r2 => obtain ⟨m', h1, h2⟩ := q5; exact ih m' r2 s' (by omega) h2
        | ct r2 => obtain ⟨m', h1, h2⟩ := q5; exact ih m' r2 s' (by omega) h2
        | bk r2 => exact q5
        | rt v => exact ⟨_, _, rfl, q5⟩
  exact key G.most m0 r s hm h0
end
/-! defs -/
section
variable {M : Md} {k : Nat} {x : Str} {D : Df} {vs : List Vl} {s s' : Sto}
/-- the end tells y -/
structure OutD (y : PyData) (f : Fl) : Prop where
  h : outOf f = some (.d y)
structure OutV (n : Nat) (v : Vl) (s' : Sto) (f : Fl) (s1 : Sto) : Prop where
  h : ∃ w, outOf f = some w ∧ trim n w s1 = (v, s')
/-- a clean def -/
theorem d_clean [h : Has M x D] (hk : 1 ≤ k) {y : PyData} {ds : List PyData} (hc : D.clean = true) (hn : vs.length = D.np) (hd : allD vs = some ds) (hb : Wl (fun f _ => OutD y f) (exB (levG M (k - 1)) D.body (vs.map some ++ List.replicate (D.ns - D.np) none) [])) :
    lev M k x vs s = some (.d y, s) := by
  rw [run_def hk]
  obtain ⟨f, s1, e, ⟨q⟩⟩ := hb
  unfold runD
  rw [if_pos hn, hc, if_pos rfl, hd]
  simp only []
  rw [e]
  simp only [q]
/-- a def that shares the store; what it made is forgotten -/
theorem d_open [h : Has M x D] (hk : 1 ≤ k) {v : Vl} (hc : D.clean = false) (hn : vs.length = D.np) (hb : Wl (fun f s1 => OutV s.length v s' f s1) (exB (levG M (k - 1)) D.body (vs.map some ++ List.replicate (D.ns - D.np) none) s)) :
    lev M k x vs s = some (v, s') := by
  rw [run_def hk]
  obtain ⟨f, s1, e, ⟨w, q, q2⟩⟩ := hb
  unfold runD
  rw [if_pos hn, hc, if_neg Bool.false_ne_true, e]
  simp only [q, q2]
end
end MP

/-! MP16: whole numbers, lists: small facts. -/
namespace MP
open PySem PySem.Spec
abbrev bits (i : Int) : Nat := Builtin.Int.intBits i
theorem bits_le {x : Int} {n : Nat} : bits x ≤ n ↔ x.natAbs < 2 ^ n := by
  show (if (x == 0) = true then 0 else x.natAbs.log2 + 1) ≤ n ↔ _
  by_cases h : x = 0
  · subst h
    simp
    exact Nat.pow_pos (by decide)
  · have hb : (x == 0) = false := by simpa using h
    rw [hb]
    have hn : x.natAbs ≠ 0 := by omega
    simp only [Bool.false_eq_true, if_false]
    rw [← Nat.log2_lt hn]
    omega
theorem bits_add {x y : Int} {n : Nat} (hx : bits x ≤ n) (hy : bits y ≤ n) : bits (x + y) ≤ n + 1 := by
  rw [bits_le] at hx hy ⊢
  have := Int.natAbs_add_le x y
  rw [Nat.pow_succ]
  omega
theorem bits_sub {x y : Int} {n : Nat} (hx : bits x ≤ n) (hy : bits y ≤ n) : bits (x - y) ≤ n + 1 := by
  rw [bits_le] at hx hy ⊢
  have := Int.natAbs_sub_le x y
  rw [Nat.pow_succ]
  omega
theorem bits_mul {x y : Int} {m n : Nat} (hx : bits x ≤ m) (hy : bits y ≤ n) : bits (x * y) ≤ m + n := by
  rw [bits_le] at hx hy ⊢
  rw [Int.natAbs_mul, Nat.pow_add]
  exact Nat.mul_lt_mul'' hx hy
theorem bits_mono {x : Int} {m n : Nat} (hx : bits x ≤ m) (h : m ≤ n) : bits x ≤ n := Nat.le_trans hx h
theorem bits_of {x : Int} {n : Nat} (h1 : -(2 ^ n : Int) < x) (h2 : x < (2 ^ n : Int)) : bits x ≤ n := by
  rw [bits_le]
  have e : ((2 ^ n : Nat) : Int) = (2 : Int) ^ n := by simp
  omega
theorem bits_nat {x y : Int} (h0 : 0 ≤ x) (h : x ≤ y) : bits x ≤ bits y := by
  have := (bits_le (x := y) (n := bits y)).mp (Nat.le_refl _)
  rw [bits_le]
  omega
theorem mulOk_of {i j : Int} {m n : Nat} (hi : bits i ≤ m) (hj : bits j ≤ n) (h : m + n ≤ 100000000) : mulOk i j = true := by
  unfold mulOk
  exact decide_eq_true (Nat.le_trans (Nat.add_le_add hi hj) h)
theorem divOk_of {j : Int} (h0 : 0 < j) (h : bits j ≤ 9000) : divOk j = true := by
  unfold divOk
  rw [Bool.and_eq_true]
  refine ⟨decide_eq_true h0, decide_eq_true ?_⟩
  have hn : j.natAbs ≠ 0 := by omega
  rw [bits_le] at h
  exact (Nat.log2_lt hn).mpr h
theorem powOk_of {i j : Int} {m : Nat} (h0 : 0 ≤ j) (hi : bits i ≤ m) (h : m * j.toNat ≤ 100000000) : powOk i j = true := by
  unfold powOk
  rw [Bool.and_eq_true]
  exact ⟨decide_eq_true h0, decide_eq_true (Nat.le_trans (Nat.mul_le_mul_right _ hi) h)⟩
/-- the last -/
theorem atI_last {α : Type} (xs : List α) : L2.atI xs (-1) = xs.getLast? := by
  unfold L2.atI L2.ixN
  rw [if_neg (by decide)]
  cases xs with
  | nil => rfl
  | cons x r =>
    rw [if_pos (by simp <;> omega), Option.bind_some, List.getLast?_eq_getElem?]
    congr 1
    simp
    omega
theorem ixN_nat {n i : Nat} (h : i < n) : L2.ixN n (i : Int) = some i := by
  unfold L2.ixN
  rw [if_pos (by omega), if_pos (by omega)]
  simp
theorem atI_nat {α : Type} {xs : List α} {i : Nat} (h : i < xs.length) : L2.atI xs (i : Int) = xs[i]? := by
  unfold L2.atI
  rw [ixN_nat h]
  rfl
theorem lm_app {xs : List Vl} {v : Vl} (h : xs.length < sizeLine) : lmv .append xs [v] = some (.d .none, xs ++ [v]) := by
  show (if xs.length < sizeLine then some (Vl.d .none, xs ++ [v]) else none) = _
  rw [if_pos h]
theorem sizeL : sizeLine = 16777216 := by decide
theorem trim_data {n : Nat} {x : PyData} {s : Sto} (h : s.length ≤ n) : trim n (.d x) s = (.d x, s) := by
  unfold trim
  split
  · rw [List.take_of_length_le h]
  · rfl
/-- a store of data alone -/
def isDt : So → Bool
  | .lst vs => (allD vs).isSome
  | .ins _ _ => false
  | .dead => true
def Dt (s : Sto) : Prop := ∀ o ∈ s, isDt o = true
theorem belows_allD {k : Nat} : ∀ {vs : List Vl}, (allD vs).isSome = true → below.belows k vs = true
  | [], _ => rfl
  | .d x :: r, h => by
    have h' : ((allD r).map (x :: ·)).isSome = true := h
    have : (allD r).isSome = true := by simpa using h'
    simp [below.belows, below, belows_allD this]
  | .loc n :: r, h => by cases h
  | .mix vs :: r, h => by cases h
theorem Dt.below {s : Sto} {k : Nat} (h : Dt s) : s.all (belowO k) = true := by
  rw [List.all_eq_true]
  intro o ho
  have := h o ho
  cases o with
  | lst vs => exact belows_allD this
  | ins c fs => cases this
  | dead => rfl
theorem Dt.take {s : Sto} (h : Dt s) (n : Nat) : Dt (s.take n) := fun o ho => h o (List.mem_of_mem_take ho)
theorem Dt.app {s t : Sto} (h : Dt s) (h2 : Dt t) : Dt (s ++ t) := fun o ho => (List.mem_append.mp ho).elim (h o) (h2 o)
theorem Dt.set {s : Sto} (h : Dt s) {n : Nat} {o : So} (h2 : isDt o = true) : Dt (s.set n o) := fun p hp => by
  rcases List.mem_or_eq_of_mem_set hp with q | q
  · exact h p q
  · rw [q]; exact h2
theorem Dt.nil : Dt [] := fun o h => by cases h
theorem Dt.one {o : So} (h : isDt o = true) : Dt [o] := fun p hp => by
  have : p = o := by simpa using hp
  rw [this]; exact h
theorem trim_dt {n : Nat} {x : PyData} {s : Sto} (h : Dt (s.take n)) : trim n (.d x) s = (.d x, s.take n) := by
  unfold trim
  rw [h.below]
  rfl
theorem allD_app : ∀ {a b : List Vl} {x y : List PyData}, allD a = some x → allD b = some y → allD (a ++ b) = some (x ++ y)
  | [], b, x, y, h, h2 => by
    cases h
    exact h2
  | .d z :: a, b, x, y, h, h2 => by
    have h' : (allD a).map (z :: ·) = some x := h
    obtain ⟨w, q1, q2⟩ := Option.map_eq_some_iff.mp h'
    subst q2
    show (allD (a ++ b)).map (z :: ·) = _
    rw [allD_app q1 h2]
    rfl
  | .loc _ :: a, b, x, y, h, h2 => by cases h
  | .mix _ :: a, b, x, y, h, h2 => by cases h
theorem allD_f {α : Type} {f : α → PyData} {l : List α} : allD (l.map fun x => Vl.d (f x)) = some (l.map f) := allD_mapf f l
theorem revInd {α : Type} {P : List α → Prop} (h0 : P []) (hs : ∀ l x, P l → P (l ++ [x])) (l : List α) : P l := by
  have key : ∀ (r : List α), P r.reverse := fun r => by
    induction r with
    | nil => exact h0
    | cons x r ih =>
      rw [List.reverse_cons]
      exact hs _ _ ih
  have := key l.reverse
  rwa [List.reverse_reverse] at this
theorem out_loc {n : Nat} {s : Sto} : OutV n (.loc n) s (.rt (.loc n)) s := ⟨_, rfl, by
  unfold trim
  rw [if_neg]
  simp [below]⟩
theorem out_same {n : Nat} {x : PyData} {s s' : Sto} (e : s = s') (h : s.length ≤ n) : OutV n (.d x) s' (.rt (.d x)) s := ⟨_, rfl, by rw [trim_data h, e]⟩
theorem out_cut {n : Nat} {x : PyData} {s s' : Sto} (h : Dt (s.take n)) (e : s.take n = s') : OutV n (.d x) s' (.rt (.d x)) s := ⟨_, rfl, by rw [trim_dt h, e]⟩
section
variable {M : Md} {k : Nat} {x : Str} {D : Df} {vs : List Vl} {s : Sto}
theorem d_openE {ι : Type} {R : ι → Prop} {v : ι → Vl} {s' : ι → Sto} [h : Has M x D] (hk : 1 ≤ k) (hc : D.clean = false) (hn : vs.length = D.np) (hb : Wl (fun f s1 => ∃ y, R y ∧ OutV s.length (v y) (s' y) f s1) (exB (levG M (k - 1)) D.body (vs.map some ++ List.replicate (D.ns - D.np) none) s)) :
    ∃ y, R y ∧ lev M k x vs s = some (v y, s' y) := by
  obtain ⟨f, s1, e, y, q1, q2⟩ := hb
  exact ⟨y, q1, d_open hk hc hn ⟨f, s1, e, q2⟩⟩
theorem d_cleanE {ι : Type} {R : ι → Prop} {v : ι → PyData} [h : Has M x D] {ds : List PyData} (hk : 1 ≤ k) (hc : D.clean = true) (hn : vs.length = D.np) (hd : allD vs = some ds) (hb : Wl (fun f s1 => ∃ y, R y ∧ OutD (v y) f) (exB (levG M (k - 1)) D.body (vs.map some ++ List.replicate (D.ns - D.np) none) [])) :
    ∃ y, R y ∧ lev M k x vs s = some (.d (v y), s) := by
  obtain ⟨f, s1, e, y, q1, q2⟩ := hb
  exact ⟨y, q1, d_clean hk hc hn hd ⟨f, s1, e, q2⟩⟩
end
end MP

local macro_rules | `(tactic| decreasing_trivial_pre_omega) => `(tactic| first
  | with_reducible exact MP.e_cst | with_reducible exact MP.c_no | with_reducible exact MP.ox_no | with_reducible exact MP.es_nil | with_reducible exact MP.v_add | with_reducible exact MP.v_sub | with_reducible exact MP.v_lt | with_reducible exact MP.v_le | with_reducible exact MP.v_gt | with_reducible exact MP.v_ge | with_reducible exact MP.v_eqI | with_reducible exact MP.v_neI | with_reducible exact MP.v_eqB | with_reducible exact MP.v_neB | with_reducible exact MP.v_eqS | with_reducible exact MP.v_neS | with_reducible exact MP.isiv_d | with_reducible exact MP.b_len_l | with_reducible exact MP.b_len_t | with_reducible exact MP.b_min2 | with_reducible exact MP.b_max2 | with_reducible exact MP.b_list_l | with_reducible exact MP.b_list_t | with_reducible exact MP.b_tup_l | with_reducible exact MP.b_tup_t | with_reducible exact MP.b_intB | with_reducible exact MP.b_intI | with_reducible exact MP.b_allf | with_reducible exact MP.b_anyf | with_reducible exact MP.b_sumf | with_reducible exact MP.allD_f
  | with_reducible apply MP.e_var | with_reducible apply MP.e_o2 | with_reducible apply MP.e_call | with_reducible apply MP.es_cons | with_reducible apply MP.e_o1 | with_reducible apply MP.e_not | with_reducible apply MP.e_bop | with_reducible apply MP.b_one | with_reducible apply MP.b_and | with_reducible apply MP.b_or | with_reducible apply MP.e_bi | with_reducible apply MP.e_isi | with_reducible apply MP.e_tup | with_reducible apply MP.e_lstT | with_reducible apply MP.e_lstF | with_reducible apply MP.i_seq | with_reducible apply MP.i_enum | with_reducible apply MP.i_rng1 | with_reducible apply MP.i_rng2 | with_reducible apply MP.e_slL | with_reducible apply MP.e_slT | with_reducible apply MP.e_lm | with_reducible apply MP.c_so | with_reducible apply MP.ox_so | with_reducible apply MP.w_asg | with_reducible apply MP.w_par | with_reducible apply MP.w_ex | with_reducible apply MP.w_ret | with_reducible apply MP.w_pass | with_reducible apply MP.w_if | with_reducible apply MP.w_retN | with_reducible apply MP.w_brk | with_reducible apply MP.w_cnt | with_reducible apply MP.s_done | with_reducible apply MP.lm_app | with_reducible apply MP.e_frzL | with_reducible apply MP.allD_app | with_reducible apply MP.v_mul | with_reducible apply MP.v_fdiv | with_reducible apply MP.v_mod | with_reducible apply MP.v_pow
  | intro _ | with_reducible assumption | (with_reducible apply_assumption <;> omega) | exact rfl | simp only [MP.Sms.app])

/-! MP17: data: what may be compared, how long it is shown. -/
namespace MP
open PySem PySem.Spec
theorem plainAll_of : ∀ {ds : List PyData}, (∀ x ∈ ds, x.plain = true) → PyData.plainAll ds = true
  | [], _ => rfl
  | d :: ds, h => by
    rw [PyData.plainAll.eq_2, h d (List.mem_cons_self ..), plainAll_of fun x hx => h x (List.mem_cons_of_mem _ hx)]
    rfl
theorem depthAll_of {n : Nat} : ∀ {ds : List PyData}, (∀ x ∈ ds, x.depth ≤ n) → PyData.depthAll ds ≤ n
  | [], _ => Nat.zero_le _
  | d :: ds, h => by
    rw [PyData.depthAll.eq_2]
    exact Nat.max_le.mpr ⟨h d (List.mem_cons_self ..), depthAll_of fun x hx => h x (List.mem_cons_of_mem _ hx)⟩
theorem hasDictAll_of : ∀ {ds : List PyData}, (∀ x ∈ ds, x.hasDict = false) → PyData.hasDictAll ds = false
  | [], _ => rfl
  | d :: ds, h => by
    rw [PyData.hasDictAll.eq_2, h d (List.mem_cons_self ..), hasDictAll_of fun x hx => h x (List.mem_cons_of_mem _ hx)]
    rfl
theorem showableAll_of : ∀ {ds : List PyData}, (∀ x ∈ ds, x.showable = true) → PyData.showableAll ds = true
  | [], _ => rfl
  | d :: ds, h => by
    rw [PyData.showableAll.eq_2, h d (List.mem_cons_self ..), showableAll_of fun x hx => h x (List.mem_cons_of_mem _ hx)]
    rfl
/-- data that may be compared, n deep -/
structure Flt (n : Nat) (x : PyData) : Prop where
  p : x.plain = true
  d : x.depth ≤ n
theorem Flt.int {n : Nat} (i : Int) : Flt n (.int i) := ⟨rfl, Nat.zero_le _⟩
theorem Flt.bool {n : Nat} (i : Bool) : Flt n (.bool i) := ⟨rfl, Nat.zero_le _⟩
theorem Flt.str {n : Nat} (i : Str) : Flt n (.str i) := ⟨rfl, Nat.zero_le _⟩
theorem Flt.list {n : Nat} {ds : List PyData} (h : ∀ x ∈ ds, Flt n x) : Flt (n + 1) (.list ds) := ⟨by rw [PyData.plain.eq_5]; exact plainAll_of fun x hx => (h x hx).p, by rw [PyData.depth.eq_1]; exact Nat.add_le_add_right (depthAll_of fun x hx => (h x hx).d) 1⟩
theorem Flt.tuple {n : Nat} {ds : List PyData} (h : ∀ x ∈ ds, Flt n x) : Flt (n + 1) (.tuple ds) := ⟨by rw [PyData.plain.eq_6]; exact plainAll_of fun x hx => (h x hx).p, by rw [PyData.depth.eq_2]; exact Nat.add_le_add_right (depthAll_of fun x hx => (h x hx).d) 1⟩
theorem Flt.ok {n : Nat} {x : PyData} (h : Flt n x) (hn : n ≤ 60) : okD x = true := by
  unfold okD
  rw [h.p, decide_eq_true (Nat.le_trans h.d hn)]
  rfl
theorem Flt.pair {n : Nat} (a b : Int) : Flt (n + 1) (.tuple [.int a, .int b]) := Flt.tuple fun x hx => by
  rcases List.mem_cons.mp hx with q | q
  · rw [q]; exact .int _
  · have : x = .int b := by simpa using q
    rw [this]; exact .int _
/-- a list beside the empty list -/
theorem eqv_nil {ds : List PyData} : PyData.eqv (.list ds) (.list []) = ds.isEmpty := by
  cases ds <;> rfl
theorem v_neNil {s : Sto} {v : Vl} {ds : List PyData} (h : datV s v = some (.list ds)) (hf : okD (.list ds) = true) : o2v .ne s v (.d (.list [])) = some (.d (.bool (!ds.isEmpty))) := by
  show (match datV s v, datV s (.d (.list [])) with
    | some x, some y => if okD x && okD y then some (Vl.d (.bool (!PyData.eqv x y))) else none
    | _, _ => none) = _
  rw [h]
  show (if okD (.list ds) && okD (.list []) then some (Vl.d (.bool (!PyData.eqv (.list ds) (.list [])))) else none) = _
  rw [hf, eqv_nil]
  rfl
theorem v_eqNil {s : Sto} {v : Vl} {ds : List PyData} (h : datV s v = some (.list ds)) (hf : okD (.list ds) = true) : o2v .eq s v (.d (.list [])) = some (.d (.bool ds.isEmpty)) := by
  show (match datV s v, datV s (.d (.list [])) with
    | some x, some y => if okD x && okD y then some (Vl.d (.bool (PyData.eqv x y))) else none
    | _, _ => none) = _
  rw [h]
  show (if okD (.list ds) && okD (.list []) then some (Vl.d (.bool (PyData.eqv (.list ds) (.list [])))) else none) = _
  rw [hf, eqv_nil]
  rfl
theorem dat_loc {s : Sto} {n : Nat} {vs : List Vl} {ds : List PyData} (h : s[n]? = some (.lst vs)) (h2 : allD vs = some ds) : datV s (.loc n) = some (.list ds) := by
  have k : ∀ (n : Nat) {vs : List Vl} {ds : List PyData}, allD vs = some ds → allM (datN s n) vs = some ds := fun n vs => by
    induction vs with
    | nil => intro ds h; cases h; rfl
    | cons v vs ih =>
      intro ds h
      cases v with
      | d x =>
        have h' : (allD vs).map (x :: ·) = some ds := h
        obtain ⟨es, q1, q2⟩ := Option.map_eq_some_iff.mp h'
        subst q2
        have e0 : datN s n (.d x) = some x := by cases n <;> rfl
        unfold allM
        rw [e0, ih q1]
      | loc i => cases h
      | mix q => cases h
  show datN s 6 (.loc n) = _
  show (match s[n]? with
      | some (.lst vs) => (allM (datN s 5) vs).map PyData.list
      | _ => none) = _
  rw [h]
  show (allM (datN s 5) vs).map PyData.list = _
  rw [k 5 h2]
  rfl
/-! how long -/
theorem str_app (a b : Str) : (a ++ b).length = a.length + b.length := by
  show (a.cps ++ b.cps).size = _
  rw [Array.size_append]
  rfl
theorem shown_int {k : Nat} {i : Int} (hk : 0 < k) (h : i.natAbs < 10 ^ k) : (PyData.int i).shown.length ≤ k + 1 := by
  rw [PyData.shown.eq_3, ofString_length]
  exact int_text_length_le10 hk h
theorem shownAll_map : ∀ ds : List PyData, PyData.shownAll ds = ds.map PyData.shown
  | [] => rfl
  | d :: ds => by rw [PyData.shownAll.eq_2, shownAll_map ds, List.map_cons]
theorem join_len {L : Nat} : ∀ {ts : List Str}, (∀ t ∈ ts, t.length ≤ L) → (Str.join ", " ts).length ≤ ts.length * (L + 2)
  | [], _ => by show (0 : Nat) ≤ _; omega
  | [x], h => by
    have := h x (by simp)
    show x.length ≤ _
    simp
    omega
  | x :: y :: ts, h => by
    have h1 := h x (by simp)
    have ih := join_len (ts := y :: ts) fun t ht => h t (List.mem_cons_of_mem _ ht)
    show (x ++ (", " : Str) ++ Str.join ", " (y :: ts)).length ≤ _
    rw [str_app, str_app]
    have e : ((", " : Str)).length = 2 := by decide +kernel
    rw [e, List.length_cons, Nat.add_mul]
    omega
theorem from_len {L : Nat} : ∀ {ts : List Str} {k : Nat} {acc : Str}, (∀ t ∈ ts, t.length ≤ L) → (textFrom k acc ts).length ≤ acc.length + ts.length * (L + 2)
  | [], k, acc, _ => by show acc.length ≤ _; omega
  | t :: ts, k, acc, h => by
    have h1 := h t (by simp)
    have ih := from_len (k := k + 1) (acc := acc ++ (if k > 0 then ", " else "" : String) ++ t) fun t ht => h t (List.mem_cons_of_mem _ ht)
    show (textFrom (k + 1) (acc ++ (if k > 0 then ", " else "" : String) ++ t) ts).length ≤ _
    have e : (((if k > 0 then ", " else "" : String) : Str)).length ≤ 2 := by
      split
      · decide +kernel
      · decide +kernel
    rw [str_app, str_app] at ih
    rw [List.length_cons, Nat.add_mul]
    omega
theorem tuple_len {L : Nat} {ds : List PyData} (h : ∀ x ∈ ds, x.shown.length ≤ L) : (PyData.tuple ds).shown.length ≤ ds.length * (L + 2) + 3 := by
  rw [PyData.shown.eq_6, shownAll_map]
  unfold tupleText
  rw [str_app, str_app]
  have h2 := join_len (L := L) (ts := ds.map PyData.shown) fun t ht => by
    obtain ⟨x, hx, rfl⟩ := List.mem_map.mp ht
    exact h x hx
  rw [List.length_map] at h2
  have e1 : (Str.ofString "(").length = 1 := by decide +kernel
  have e2 : (Str.ofString (if ((ds.map PyData.shown).length == 1) = true then ",)" else ")")).length ≤ 2 := by
    split
    · decide +kernel
    · decide +kernel
  have e3 : (Str.ofString ", ") = (", " : Str) := rfl
  rw [e3]
  omega
theorem list_len {L : Nat} {ds : List PyData} (h : ∀ x ∈ ds, x.shown.length ≤ L) : (PyData.list ds).shown.length ≤ ds.length * (L + 2) + 2 := by
  rw [PyData.shown.eq_5, shownAll_map]
  unfold listText
  rw [str_app]
  have h2 := from_len (L := L) (k := 0) (acc := Str.ofString "[") (ts := ds.map PyData.shown) fun t ht => by
    obtain ⟨x, hx, rfl⟩ := List.mem_map.mp ht
    exact h x hx
  rw [List.length_map] at h2
  have e1 : (Str.ofString "[").length = 1 := by decide +kernel
  have e2 : (Str.ofString "]").length = 1 := by decide +kernel
  omega
/-- data that may be shown: no dict, no great number, L long at most, n deep at most -/
structure Shw (n L : Nat) (x : PyData) : Prop where
  s : x.showable = true
  h : x.hasDict = false
  d : x.depth ≤ n
  l : x.shown.length ≤ L
theorem Shw.int {n k : Nat} {i : Int} (hk : 0 < k) (hk2 : k ≤ 500) (h : i.natAbs < 10 ^ k) : Shw n (k + 1) (.int i) := by
  refine ⟨?_, rfl, Nat.zero_le _, shown_int hk h⟩
  rw [PyData.showable.eq_4]
  refine decide_eq_true ?_
  by_cases h0 : i.natAbs = 0
  · rw [h0]; decide
  · refine (Nat.log2_lt h0).mpr (Nat.lt_of_lt_of_le h ?_)
    calc (10 : Nat) ^ k ≤ 10 ^ 500 := Nat.pow_le_pow_right (by decide) hk2
      _ ≤ 2 ^ 1920 := by decide +kernel
theorem Shw.mono {n m L L' : Nat} {x : PyData} (h : Shw n L x) (h1 : n ≤ m) (h2 : L ≤ L') : Shw m L' x := ⟨h.s, h.h, Nat.le_trans h.d h1, Nat.le_trans h.l h2⟩
theorem Shw.list {n L : Nat} {ds : List PyData} (h : ∀ x ∈ ds, Shw n L x) : Shw (n + 1) (ds.length * (L + 2) + 2) (.list ds) :=
  ⟨by rw [PyData.showable.eq_5]; exact showableAll_of fun x hx => (h x hx).s, by show PyData.hasDictAll ds = false; exact hasDictAll_of fun x hx => (h x hx).h, by rw [PyData.depth.eq_1]; exact Nat.add_le_add_right (depthAll_of fun x hx => (h x hx).d) 1, list_len fun x hx => (h x hx).l⟩
theorem Shw.tuple {n L : Nat} {ds : List PyData} (h : ∀ x ∈ ds, Shw n L x) : Shw (n + 1) (ds.length * (L + 2) + 3) (.tuple ds) :=
  ⟨by show PyData.showableAll ds = true; exact showableAll_of fun x hx => (h x hx).s, by show PyData.hasDictAll ds = false; exact hasDictAll_of fun x hx => (h x hx).h, by rw [PyData.depth.eq_2]; exact Nat.add_le_add_right (depthAll_of fun x hx => (h x hx).d) 1, tuple_len fun x hx => (h x hx).l⟩
theorem Shw.pair {n k : Nat} {a b : Int} (hk : 0 < k) (hk2 : k ≤ 500) (ha : a.natAbs < 10 ^ k) (hb : b.natAbs < 10 ^ k) : Shw (n + 1) (2 * (k + 3) + 3) (.tuple [.int a, .int b]) := by
  have q : Shw (n + 1) ([PyData.int a, PyData.int b].length * (k + 1 + 2) + 3) (.tuple [.int a, .int b]) := Shw.tuple (L := k + 1) fun x hx => by
    rcases List.mem_cons.mp hx with q | q
    · rw [q]; exact .int hk hk2 ha
    · have : x = .int b := by simpa using q
      rw [this]; exact .int hk hk2 hb
  exact q.mono (Nat.le_refl _) (by simp)
theorem Shw.ok {n L : Nat} {ds : List PyData} (h : Shw n L (.list ds)) (hn : n ≤ 60) (hL : L ≤ 16777216) : showOk (.list ds) = true := by
  unfold showOk
  rw [h.s, h.h, decide_eq_true (Nat.le_trans h.d hn), decide_eq_true (show (PyData.list ds).shown.length ≤ sizeLine by rw [sizeL]; exact Nat.le_trans h.l hL)]
  rfl
theorem b_repr {s : Sto} {x : PyData} (h : showOk x = true) : biv .repr s [.d x] = some (.d (.str x.shown)) := by
  show (if showOk x then some (Vl.d (.str x.shown)) else none) = _
  rw [h]
  rfl
end MP

/-! MP18: comprehensions that change the store, or leave out. -/
namespace MP
open PySem PySem.Spec
section
variable {G : Cn} {r : Nv} {s s1 : Sto}
/-- a comprehension, by what stays true: pre, what was gone through; acc, what was kept -/
theorem e_compS {α : Type} {own : List Nat} {tg : Tg} {it : It} {c : Ox} {e : Ex} {l : List α} {φ : α → Vl} {g : List (Nat × List Vl)} (P : List α → List PyData → Sto → Prop) (hi : evI G it r s = some ((l.map φ, g), s1)) (hz : l.length ≤ 16000000) (h0 : P [] [] s1)
    (hs : ∀ (pre : List α) (x : α) (post : List α) (acc : List PyData) (s : Sto), l = pre ++ x :: post → P pre acc s → okGb g s = true ∧ ∃ r1, bindT tg (φ x) (wipeN r own) = some r1 ∧
      ((∃ s1, evC G c r1 s = some (.d (.bool false), s1) ∧ P (pre ++ [x]) acc s1) ∨ ∃ s1 y s2, evC G c r1 s = some (.d (.bool true), s1) ∧ evE G e r1 s1 = some (.d y, s2) ∧ P (pre ++ [x]) (acc ++ [y]) s2))
    (he : ∀ acc s, P l acc s → okGb g s = true) : ∃ acc s', evE G (.comp true own tg it c e) r s = some (.d (.list acc), s') ∧ P l acc s' ∧ acc.length ≤ l.length := by
  have key : ∀ (post pre : List α) (acc : List PyData) (s : Sto), l = pre ++ post → P pre acc s → ∃ ys s', turnsC g (fun v => bindT tg v (wipeN r own)) (evC G c) (evE G e) (post.map φ) s = some (ys.map Vl.d, s') ∧ P l (acc ++ ys) s' ∧ ys.length ≤ post.length := by
    intro post
    induction post with
    | nil =>
      intro pre acc s e p
      rw [List.append_nil] at e
      subst e
      refine ⟨[], s, ?_, by rw [List.append_nil]; exact p, Nat.le_refl _⟩
      rw [List.map_nil]
      unfold turnsC
      simp only [he acc s p, if_true, List.map_nil]
    | cons x post ih =>
      intro pre acc s e p
      obtain ⟨q1, r1, q2, q3⟩ := hs pre x post acc s e p
      have e2 : l = (pre ++ [x]) ++ post := by rw [e]; simp
      rw [List.map_cons]
      unfold turnsC
      simp only [q1, if_true, q2, Option.bind_some]
      rcases q3 with ⟨sa, c1, p1⟩ | ⟨sa, y, sb, c1, c2, p1⟩
      · obtain ⟨ys, s', t1, t2, t3⟩ := ih (pre ++ [x]) acc sa e2 p1
        refine ⟨ys, s', ?_, t2, by rw [List.length_cons]; omega⟩
        simp only [c1, bnd_some]
        exact t1
      · obtain ⟨ys, s', t1, t2, t3⟩ := ih (pre ++ [x]) (acc ++ [y]) sb e2 p1
        refine ⟨y :: ys, s', ?_, by simpa using t2, by simp; omega⟩
        simp only [c1, bnd_some, c2, t1, List.map_cons]
  obtain ⟨ys, s', t1, t2, t3⟩ := key l [] [] s1 rfl h0
  refine ⟨ys, s', ?_, by simpa using t2, t3⟩
  rw [evE, hi, bnd_some]
  simp only []
  rw [t1, bnd_some]
  simp only [List.length_map]
  rw [if_pos ⟨by omega, hz⟩, newL_t, allD_map] <;> rfl
end
/-- a text gone through, sign by sign -/
theorem wk_text {s : Sto} {z : Str} : wkOf s (.d (.str z)) = some (z.cps.toList.map fun c => Vl.d (.str ⟨#[c]⟩), []) := rfl
theorem v_innT2 {s : Sto} {x a b : Str} : o2v .inn s (.d (.str x)) (.d (.tuple [.str a, .str b])) = some (.d (.bool ((a == x) || (b == x)))) := by
  show some (Vl.d (.bool ([PyData.str a, .str b].any fun y => PyData.eqv y (.str x)))) = _
  congr 3
  show ((PyData.eqv (.str a) (.str x)) || ((PyData.eqv (.str b) (.str x)) || false)) = _
  rw [Bool.or_false]
  rfl
end MP

/-! MP19: more rules: comprehensions with two fors, max with a default, kinds of places, texts. -/
namespace MP
open PySem PySem.Spec
section
variable {G : Cn} {r : Nv} {s s1 s2 s3 : Sto}
/-- a comprehension with two fors that changes nothing and tells the inner items -/
theorem e_comp2 {α : Type} {own own1 : List Nat} {tg tg1 : Tg} {it it1 : It} {e : Ex} {l : List α} {φ : α → Vl} {g : List (Nat × List Vl)} (f : α → List PyData) (hi : evI G it r s = some ((l.map φ, g), s1)) (hg : okGb g s1 = true) (hz : (l.flatMap f).length ≤ 16000000)
    (h : ∀ x ∈ l, ∃ r1, bindT tg (φ x) (wipeN r own) = some r1 ∧ evI G it1 r1 s1 = some (((f x).map Vl.d, []), s1) ∧ ∀ y ∈ f x, ∃ r2, bindT tg1 (.d y) (wipeN r1 own1) = some r2 ∧ evE G e r2 s1 = some (.d y, s1)) :
    evE G (.comp2 own own1 tg it tg1 it1 e) r s = some (.d (.list (l.flatMap f)), s1) := by
  rw [evE, hi, bnd_some]
  simp only []
  have key : ∀ l : List α, (∀ x ∈ l, ∃ r1, bindT tg (φ x) (wipeN r own) = some r1 ∧ evI G it1 r1 s1 = some (((f x).map Vl.d, []), s1) ∧ ∀ y ∈ f x, ∃ r2, bindT tg1 (.d y) (wipeN r1 own1) = some r2 ∧ evE G e r2 s1 = some (.d y, s1)) →
      turns2 g (fun v => bindT tg v (wipeN r own)) (fun r1 s => bnd (evI G it1 r1 s) fun w1 s1 => turnsC w1.2 (fun v => bindT tg1 v (wipeN r1 own1)) yes (evE G e) w1.1 s1) (l.map φ) s1 = some ((l.flatMap f).map Vl.d, s1) := by
    intro l
    induction l with
    | nil =>
      intro _
      rw [List.map_nil]
      unfold turns2
      simp only [hg, if_true]
      rfl
    | cons x l ih =>
      intro h
      obtain ⟨r1, h1, h2, h3⟩ := h x (List.mem_cons_self ..)
      have hin : turnsC [] (fun v => bindT tg1 v (wipeN r1 own1)) yes (evE G e) ((f x).map Vl.d) s1 = some ((f x).map fun y => Vl.d y, s1) := by
        refine turnsC_map (f := fun y => y) (φ := Vl.d) okGb_nil (f x) fun y hy => ?_
        obtain ⟨r2, q1, q2⟩ := h3 y hy
        exact ⟨r2, q1, rfl, q2⟩
      rw [List.map_cons]
      unfold turns2
      simp only [hg, if_true, h1, Option.bind_some, h2, bnd_some]
      rw [hin, bnd_some, ih fun y hy => h y (List.mem_cons_of_mem _ hy), bnd_some, List.flatMap_cons, List.map_append]
  rw [key l h, bnd_some, List.length_map, if_pos hz, newL_t, allD_map] <;> rfl
def mxD (xs : List Int) (k : Int) : Int := match xs with
  | [] => k
  | n :: ns => maxI (n :: ns)
theorem e_maxD {a b : Ex} {xs : List Int} {k : Int} (h : evE G a r s = some (.d (.list (xs.map .int)), s1)) (h2 : evE G b r s1 = some (.d (.int k), s2)) : evE G (.maxD a b) r s = some (.d (.int (mxD xs k)), s2) := by
  rw [evE, h, bnd_some, h2, bnd_some]
  show (match intsOf (xs.map .int) with
      | some [] => some (Vl.d (.int k), s2)
      | some (n :: ns) => some (Vl.d (.int (maxI (n :: ns))), s2)
      | none => none) = _
  rw [intsOf_map]
  cases xs <;> rfl
theorem isiv_loc {n : Nat} {vs : List Vl} {ts : List Ty} (h : s[n]? = some (.lst vs)) : isiv s (.loc n) ts = some (.d (.bool (ts.any (· == Ty.list)))) := by
  show (match s[n]? with
    | some (.lst _) => some (Vl.d (.bool (ts.any (· == Ty.list))))
    | _ => none) = _
  rw [h]
theorem isiv_mix {vs : List Vl} {ts : List Ty} : isiv s (.mix vs) ts = some (.d (.bool (ts.any (· == Ty.tuple)))) := rfl
theorem b_lenP {n : Nat} {vs : List Vl} (h : s[n]? = some (.lst vs)) : biv .len s [.loc n] = some (.d (.int vs.length)) := by
  show (match seqOf s (.loc n) with
    | some (_, xs) => some (Vl.d (.int xs.length))
    | _ => none) = _
  unfold seqOf
  simp only [h]
theorem maxI_le : ∀ {xs : List Int} {b : Int}, 0 ≤ b → (∀ x ∈ xs, x ≤ b) → maxI xs ≤ b
  | [], b, h0, h => h0
  | [x], b, h0, h => h x (by simp)
  | x :: y :: r, b, h0, h => by
    show max x (maxI (y :: r)) ≤ b
    have h1 := h x (by simp)
    have h2 := maxI_le (xs := y :: r) h0 fun z hz => h z (List.mem_cons_of_mem _ hz)
    omega
theorem maxI_asc : ∀ {xs : List Int} {y : Int}, (∀ x ∈ xs, x ≤ y) → maxI (xs ++ [y]) = y
  | [], y, _ => rfl
  | [x], y, h => by
    have := h x (by simp)
    show max x y = y
    omega
  | x :: z :: r, y, h => by
    have h1 := h x (by simp)
    have ih := maxI_asc (xs := z :: r) fun w hw => h w (List.mem_cons_of_mem _ hw)
    show max x (maxI ((z :: r) ++ [y])) = y
    rw [ih]
    omega
theorem b_maxL {n : Int} {ns : List Int} : biv .maxL s [.d (.list ((n :: ns).map .int))] = some (.d (.int (maxI (n :: ns)))) := by
  show (match intsOf ((n :: ns).map .int) with
    | some (n :: ns) => some (Vl.d (.int (maxI (n :: ns))))
    | _ => none) = _
  rw [intsOf_map]
/-- a comprehension that changes nothing and leaves out -/
theorem e_compF {α : Type} {own : List Nat} {tg : Tg} {it : It} {c : Ox} {e : Ex} {l : List α} {φ : α → Vl} {g : List (Nat × List Vl)} (f : α → PyData) (p : α → Bool) (hi : evI G it r s = some ((l.map φ, g), s1)) (hg : okGb g s1 = true) (hz : l.length ≤ 16000000)
    (h : ∀ x ∈ l, ∃ r1, bindT tg (φ x) (wipeN r own) = some r1 ∧ evC G c r1 s1 = some (.d (.bool (p x)), s1) ∧ (p x = true → evE G e r1 s1 = some (.d (f x), s1))) : evE G (.comp true own tg it c e) r s = some (.d (.list ((l.filter p).map f)), s1) := by
  have key : ∀ l : List α, (∀ x ∈ l, ∃ r1, bindT tg (φ x) (wipeN r own) = some r1 ∧ evC G c r1 s1 = some (.d (.bool (p x)), s1) ∧ (p x = true → evE G e r1 s1 = some (.d (f x), s1))) →
      turnsC g (fun v => bindT tg v (wipeN r own)) (evC G c) (evE G e) (l.map φ) s1 = some ((l.filter p).map fun x => Vl.d (f x), s1) := by
    intro l
    induction l with
    | nil =>
      intro _
      rw [List.map_nil]
      unfold turnsC
      simp only [hg, if_true]
      rfl
    | cons x l ih =>
      intro h
      obtain ⟨r1, h1, h2, h3⟩ := h x (List.mem_cons_self ..)
      have ih' := ih fun y hy => h y (List.mem_cons_of_mem _ hy)
      rw [List.map_cons]
      unfold turnsC
      simp only [hg, if_true, h1, Option.bind_some, h2, bnd_some]
      cases hp : p x with
      | true =>
        simp only []
        rw [h3 hp, bnd_some, ih', bnd_some, List.filter_cons_of_pos hp]
        rfl
      | false =>
        simp only []
        rw [ih', List.filter_cons_of_neg (by rw [hp]; exact Bool.false_ne_true)]
  rw [evE, hi, bnd_some]
  simp only []
  rw [key l h, bnd_some, List.length_map, List.length_map]
  have hle := List.length_filter_le p l
  rw [if_pos ⟨by omega, hz⟩, newL_t, allD_mapf] <;> rfl
theorem b_andS {a a2 : Ex} {as : Exs} {z : Vl} (h : evE G a r s = some (.d (.bool true), s1)) (h2 : evB G true (.cons a2 as) r s1 = some (z, s2)) : evB G true (.cons a (.cons a2 as)) r s = some (z, s2) := by
  rw [evB, h, bnd_some]
  exact h2
theorem b_andF {a a2 : Ex} {as : Exs} (h : evE G a r s = some (.d (.bool false), s1)) : evB G true (.cons a (.cons a2 as)) r s = some (.d (.bool false), s1) := by
  rw [evB, h, bnd_some]
  rfl
theorem w_augI {o i e : Ex} {p : O2} {as : Sms} {y z old : Vl} {n j : Nat} {k : Int} {xs : List Vl} {Q : Fl → Sto → Prop} (h : evE G o r s = some (.loc n, s1)) (h2 : evE G i r s1 = some (.d (.int k), s2)) (h3 : o2v .idx s2 (.loc n) (.d (.int k)) = some old) (h4 : evE G e r s2 = some (y, s3)) (h5 : augv p old y = some z) (h6 : s3[n]? = some (.lst xs)) (h7 : L2.ixN xs.length k = some j)
    (h8 : Wl Q (exB G as r (s3.set n (.lst (xs.set j z))))) : Wl Q (exB G (.cons (.augI o i p e) as) r s) := by
  rw [exB, exS, h, bnd_some, h2, bnd_some, h3]
  simp only []
  rw [h4, bnd_some, h5]
  simp only [h6, h7, bnd_some]
  exact h8
/-- a comprehension that changes nothing, told as a list of the store -/
theorem e_compL {α : Type} {own : List Nat} {tg : Tg} {it : It} {c : Ox} {e : Ex} {l : List α} {φ : α → Vl} {g : List (Nat × List Vl)} (f : α → PyData) (hi : evI G it r s = some ((l.map φ, g), s1)) (hg : okGb g s1 = true) (hz : l.length ≤ 16000000)
    (h : ∀ x ∈ l, ∃ r1, bindT tg (φ x) (wipeN r own) = some r1 ∧ evC G c r1 s1 = some (.d (.bool true), s1) ∧ evE G e r1 s1 = some (.d (f x), s1)) : evE G (.comp false own tg it c e) r s = some (.loc s1.length, s1 ++ [.lst (l.map fun x => Vl.d (f x))]) := by
  rw [evE, hi, bnd_some]
  simp only []
  rw [turnsC_map (f := f) hg l h, bnd_some]
  simp only [List.length_map]
  rw [if_pos ⟨hz, hz⟩, newL_f]
theorem okGb_one {n : Nat} {vs : List Vl} (h : s[n]? = some (.lst vs)) : okGb [(n, vs)] s = true := by
  unfold okGb
  exact @decide_eq_true _ (Classical.propDecidable _) ⟨h, trivial⟩
theorem i_zipP {a b : Ex} {n : Nat} {xs ys : List PyData} {vs : List Vl} (h : evE G a r s = some (.loc n, s1)) (h2 : evE G b r s1 = some (.d (.list ys), s2)) (h3 : s2[n]? = some (.lst vs)) (h4 : allD vs = some xs) : evI G (.zip a b) r s = some (((xs.zip ys).map fun p => Vl.d (.tuple [p.1, p.2]), [(n, vs)]), s2) := by
  rw [evI, h, bnd_some, h2, bnd_some]
  simp only [h3, h4]
theorem i_zipM {a b : Ex} {ys : List PyData} {vs : List Vl} (h : evE G a r s = some (.mix vs, s1)) (h2 : evE G b r s1 = some (.d (.tuple ys), s2)) : evI G (.zip a b) r s = some (((vs.zip ys).map fun p => tupV [p.1, .d p.2], []), s2) := by
  rw [evI, h, bnd_some, h2, bnd_some]
/-- what is called: kept in mind -/
theorem v_eqD {a b : PyData} (h1 : okD a = true) (h2 : okD b = true) : o2v .eq s (.d a) (.d b) = some (.d (.bool (PyData.eqv a b))) := by
  show (if okD a && okD b then some (Vl.d (.bool (PyData.eqv a b))) else none) = _
  rw [h1, h2]
  rfl
theorem v_neD {a b : PyData} (h1 : okD a = true) (h2 : okD b = true) : o2v .ne s (.d a) (.d b) = some (.d (.bool (!PyData.eqv a b))) := by
  show (if okD a && okD b then some (Vl.d (.bool (!PyData.eqv a b))) else none) = _
  rw [h1, h2]
  rfl
end
end MP

namespace MP.P
open PySem MP
def b_is_whole : Sms := (.cons (.ret (.bop true (.cons (.isi (.var 0) [.int]) (.cons (.not_ (.isi (.var 0) [.bool])) (.cons (.o2 .ge (.var 0) (.var 1)) .nil)))))
 .nil)
def d_is_whole : Df := ⟨2, 2, b_is_whole, true, [("thing" : Str), ("least" : Str)], []⟩
def b_is_stretch : Sms := (.cons (.ifs (.bop false (.cons (.not_ (.isi (.var 0) [.list, .tuple])) (.cons (.o2 .ne (.bi .len (.cons (.var 0) .nil)) (.cst (.int 2))) .nil))) (.cons (.ret (.cst (.bool false)))
 .nil) .nil)
 (.cons (.ret (.bop true (.cons (.call "is_whole" (.cons (.o2 .idx (.var 0) (.cst (.int 0))) (.cons (.cst (.int 1)) .nil))) (.cons (.call "is_whole" (.cons (.o2 .idx (.var 0) (.cst (.int 1))) (.cons (.o2 .idx (.var 0) (.cst (.int 0))) .nil))) .nil))))
 .nil))
def d_is_stretch : Df := ⟨1, 1, b_is_stretch, true, [("thing" : Str)], []⟩
def x_is_row_1 : Ex := (.comp true [1] (.name 1) (.seq (.var 0)) .no (.call "is_stretch" (.cons (.var 1) .nil)))
def x_is_row_2 : Ex := (.comp true [2, 3] (.tup (.cons (.name 2) (.cons (.name 3) .nil))) (.zip (.var 0) (.sl (.var 0) (.so (.cst (.int 1))) .no)) .no (.o2 .ge (.o2 .idx (.var 3) (.cst (.int 0))) (.o2 .add (.o2 .idx (.var 2) (.cst (.int 1))) (.cst (.int 2)))))
def b_is_row : Sms := (.cons (.ifs (.bop false (.cons (.not_ (.isi (.var 0) [.list, .tuple])) (.cons (.not_ (.bi .all (.cons x_is_row_1 .nil))) .nil))) (.cons (.ret (.cst (.bool false)))
 .nil) .nil)
 (.cons (.ret (.bi .all (.cons x_is_row_2 .nil)))
 .nil))
def d_is_row : Df := ⟨1, 4, b_is_row, true, [("thing" : Str)], []⟩
def b_is_pair : Sms := (.cons (.ret (.bop true (.cons (.isi (.var 0) [.list, .tuple]) (.cons (.o2 .eq (.bi .len (.cons (.var 0) .nil)) (.cst (.int 2))) (.cons (.call "is_row" (.cons (.o2 .idx (.var 0) (.cst (.int 0))) .nil)) (.cons (.call "is_row" (.cons (.o2 .idx (.var 0) (.cst (.int 1))) .nil)) .nil))))))
 .nil)
def d_is_pair : Df := ⟨1, 1, b_is_pair, true, [("thing" : Str)], []⟩
def x_plain_1 : Ex := (.comp true [1, 2] (.tup (.cons (.name 1) (.cons (.name 2) .nil))) (.seq (.var 0)) .no (.tup (.cons (.var 1) (.cons (.var 2) .nil))))
def b_plain : Sms := (.cons (.ret x_plain_1)
 .nil)
def d_plain : Df := ⟨1, 3, b_plain, true, [("row" : Str)], []⟩
def x_plain_t_1 : Ex := (.comp false [1, 2] (.tup (.cons (.name 1) (.cons (.name 2) .nil))) (.seq (.var 0)) .no (.tup (.cons (.var 1) (.cons (.var 2) .nil))))
def b_plain_t : Sms := (.cons (.ret x_plain_t_1)
 .nil)
def d_plain_t : Df := ⟨1, 3, b_plain_t, false, [("row" : Str)], []⟩
def b_need_row : Sms := (.cons (.ifs (.not_ (.call "is_row" (.cons (.var 0) .nil))) (.cons .never
 .nil) .nil)
 (.cons (.ret (.call "plain" (.cons (.var 0) .nil)))
 .nil))
def d_need_row : Df := ⟨1, 1, b_need_row, true, [("row" : Str)], []⟩
def b_need_row_t : Sms := (.cons (.ifs (.not_ (.call "is_row" (.cons (.var 0) .nil))) (.cons .never
 .nil) .nil)
 (.cons (.ret (.call "plain'" (.cons (.var 0) .nil)))
 .nil))
def d_need_row_t : Df := ⟨1, 1, b_need_row_t, false, [("row" : Str)], []⟩
def x_edges_of_1 : Ex := (.comp2 [1, 2, 3] [3] (.tup (.cons (.name 1) (.cons (.name 2) .nil))) (.seq (.var 0)) (.name 3) (.seq (.tup (.cons (.var 1) (.cons (.o2 .add (.var 2) (.cst (.int 1))) .nil)))) (.var 3))
def b_edges_of : Sms := (.cons (.ret x_edges_of_1)
 .nil)
def d_edges_of : Df := ⟨1, 4, b_edges_of, true, [("row" : Str)], []⟩
def x_row_by_1 : Ex := (.comp true [1, 2] (.tup (.cons (.name 1) (.cons (.name 2) .nil))) (.zip (.sk .even (.var 0)) (.sk .odd (.var 0))) .no (.tup (.cons (.var 1) (.cons (.o2 .sub (.var 2) (.cst (.int 1))) .nil))))
def b_row_by : Sms := (.cons (.ret x_row_by_1)
 .nil)
def d_row_by : Df := ⟨1, 3, b_row_by, true, [("edges" : Str)], []⟩
def x_row_by_t_1 : Ex := (.comp false [1, 2] (.tup (.cons (.name 1) (.cons (.name 2) .nil))) (.zip (.sk .even (.var 0)) (.sk .odd (.var 0))) .no (.tup (.cons (.var 1) (.cons (.o2 .sub (.var 2) (.cst (.int 1))) .nil))))
def b_row_by_t : Sms := (.cons (.ret x_row_by_t_1)
 .nil)
def d_row_by_t : Df := ⟨1, 3, b_row_by_t, false, [("edges" : Str)], []⟩
def x_unlike_1 : Ex := (.comp true [2] (.name 2) (.seq (.var 0)) (.so (.o2 .nin (.var 2) (.var 1))) (.var 2))
def x_unlike_2 : Ex := (.comp true [2] (.name 2) (.seq (.var 1)) (.so (.o2 .nin (.var 2) (.var 0))) (.var 2))
def b_unlike : Sms := (.cons (.ret (.bi .sorted (.cons (.o2 .add x_unlike_1 x_unlike_2) .nil)))
 .nil)
def d_unlike : Df := ⟨2, 3, b_unlike, true, [("some" : Str), ("others" : Str)], []⟩
def x_heads_1 : Ex := (.comp true [1, 2] (.tup (.cons (.name 1) (.cons (.name 2) .nil))) (.seq (.call "need_row" (.cons (.var 0) .nil))) .no (.o2 .add (.o2 .sub (.var 2) (.var 1)) (.cst (.int 1))))
def b_heads : Sms := (.cons (.ret (.bi .sum (.cons x_heads_1 .nil)))
 .nil)
def d_heads : Df := ⟨1, 3, b_heads, true, [("row" : Str)], []⟩
def b_turned_over : Sms := (.cons (.asg (.name 2) (.call "need_row" (.cons (.var 0) .nil)))
 (.cons (.ifs (.not_ (.call "is_whole" (.cons (.var 1) (.cons (.cst (.int 0)) .nil)))) (.cons .never
 .nil) .nil)
 (.cons (.ifs (.o2 .eq (.var 1) (.cst (.int 0))) (.cons (.ret (.var 2))
 .nil) .nil)
 (.cons (.ret (.call "row_by" (.cons (.call "unlike" (.cons (.call "edges_of" (.cons (.var 2) .nil)) (.cons (.lst true (.cons (.var 1) (.cons (.o2 .add (.var 1) (.cst (.int 1))) .nil))) .nil))) .nil)))
 .nil))))
def d_turned_over : Df := ⟨2, 3, b_turned_over, true, [("row" : Str), ("place" : Str)], []⟩
def b_turned_over_t : Sms := (.cons (.asg (.name 2) (.call "need_row'" (.cons (.var 0) .nil)))
 (.cons (.ifs (.not_ (.call "is_whole" (.cons (.var 1) (.cons (.cst (.int 0)) .nil)))) (.cons .never
 .nil) .nil)
 (.cons (.ifs (.o2 .eq (.var 1) (.cst (.int 0))) (.cons (.ret (.var 2))
 .nil) .nil)
 (.cons (.ret (.call "row_by'" (.cons (.call "unlike" (.cons (.call "edges_of" (.cons (.frz (.var 2)) .nil)) (.cons (.lst true (.cons (.var 1) (.cons (.o2 .add (.var 1) (.cst (.int 1))) .nil))) .nil))) .nil)))
 .nil))))
def d_turned_over_t : Df := ⟨2, 3, b_turned_over_t, false, [("row" : Str), ("place" : Str)], []⟩
def b_plain_pair : Sms := (.cons (.ifs (.not_ (.call "is_pair" (.cons (.var 0) .nil))) (.cons .never
 .nil) .nil)
 (.cons (.ret (.tup (.cons (.call "plain" (.cons (.o2 .idx (.var 0) (.cst (.int 0))) .nil)) (.cons (.call "plain" (.cons (.o2 .idx (.var 0) (.cst (.int 1))) .nil)) .nil))))
 .nil))
def d_plain_pair : Df := ⟨1, 1, b_plain_pair, true, [("pair" : Str)], []⟩
def b_plain_pair_t : Sms := (.cons (.ifs (.not_ (.call "is_pair" (.cons (.var 0) .nil))) (.cons .never
 .nil) .nil)
 (.cons (.ret (.tup (.cons (.call "plain'" (.cons (.o2 .idx (.var 0) (.cst (.int 0))) .nil)) (.cons (.call "plain'" (.cons (.o2 .idx (.var 0) (.cst (.int 1))) .nil)) .nil))))
 .nil))
def d_plain_pair_t : Df := ⟨1, 1, b_plain_pair_t, false, [("pair" : Str)], []⟩
def b_need_who : Sms := (.cons (.ifs (.bop false (.cons (.not_ (.isi (.var 0) [.str])) (.cons (.o2 .nin (.var 0) (.glb "WHOS")) .nil))) (.cons .never
 .nil) .nil)
 .nil)
def d_need_who : Df := ⟨1, 1, b_need_who, true, [("who" : Str)], []⟩
def b_who_else : Sms := (.cons (.ret (.ite (.o2 .eq (.var 0) (.glb "OTHER")) (.glb "ONE") (.glb "OTHER")))
 .nil)
def d_who_else : Df := ⟨1, 1, b_who_else, true, [("who" : Str)], []⟩
def b_turned_by : Sms := (.cons (.asg (.tup (.cons (.name 2) (.cons (.name 3) .nil))) (.var 0))
 (.cons (.ifs (.o2 .eq (.var 1) (.glb "ONE")) (.cons (.ret (.tup (.cons (.call "turned_over" (.cons (.var 2) (.cons (.call "heads" (.cons (.var 3) .nil)) .nil))) (.cons (.call "plain" (.cons (.var 3) .nil)) .nil))))
 .nil) .nil)
 (.cons (.ret (.tup (.cons (.call "plain" (.cons (.var 2) .nil)) (.cons (.call "turned_over" (.cons (.var 3) (.cons (.call "heads" (.cons (.var 2) .nil)) .nil))) .nil))))
 .nil)))
def d_turned_by : Df := ⟨2, 4, b_turned_by, true, [("pair" : Str), ("who" : Str)], []⟩
def b_turned_by_t : Sms := (.cons (.asg (.tup (.cons (.name 2) (.cons (.name 3) .nil))) (.var 0))
 (.cons (.ifs (.o2 .eq (.var 1) (.glb "ONE")) (.cons (.ret (.tup (.cons (.call "turned_over'" (.cons (.var 2) (.cons (.call "heads" (.cons (.var 3) .nil)) .nil))) (.cons (.call "plain'" (.cons (.var 3) .nil)) .nil))))
 .nil) .nil)
 (.cons (.ret (.tup (.cons (.call "plain'" (.cons (.var 2) .nil)) (.cons (.call "turned_over'" (.cons (.var 3) (.cons (.call "heads" (.cons (.var 2) .nil)) .nil))) .nil))))
 .nil)))
def d_turned_by_t : Df := ⟨2, 4, b_turned_by_t, false, [("pair" : Str), ("who" : Str)], []⟩
def b_by_turns_1 : Sms := (.cons (.ex (.lm .append (.var 3) (.cons (.call "turned_by" (.cons (.o2 .idx (.var 3) (.o1 .neg (.cst (.int 1)))) (.cons (.var 4) .nil))) .nil)))
 (.cons (.asg (.name 4) (.call "who_else" (.cons (.var 4) .nil)))
 .nil))
def b_by_turns : Sms := (.cons (.asg (.name 3) (.lst false (.cons (.call "plain_pair" (.cons (.var 0) .nil)) .nil)))
 (.cons (.ex (.call "need_who" (.cons (.var 1) .nil)))
 (.cons (.ifs (.bop false (.cons (.not_ (.call "is_whole" (.cons (.var 2) (.cons (.cst (.int 0)) .nil)))) (.cons (.o2 .gt (.var 2) (.glb "MOST_TURNS")) .nil))) (.cons .never
 .nil) .nil)
 (.cons (.asg (.name 4) (.var 1))
 (.cons (.for_ (.name 5) (.rng1 (.var 2)) b_by_turns_1)
 (.cons (.ret (.frz (.var 3)))
 .nil))))))
def d_by_turns : Df := ⟨3, 6, b_by_turns, true, [("pair" : Str), ("first" : Str), ("many" : Str)], [(("first" : Str), (.str "other")), (("many" : Str), (.int 10))]⟩
def b_by_turns_t_1 : Sms := (.cons (.ex (.lm .append (.var 3) (.cons (.call "turned_by'" (.cons (.o2 .idx (.var 3) (.o1 .neg (.cst (.int 1)))) (.cons (.var 4) .nil))) .nil)))
 (.cons (.asg (.name 4) (.call "who_else" (.cons (.var 4) .nil)))
 .nil))
def b_by_turns_t : Sms := (.cons (.asg (.name 3) (.lst false (.cons (.call "plain_pair'" (.cons (.var 0) .nil)) .nil)))
 (.cons (.ex (.call "need_who" (.cons (.var 1) .nil)))
 (.cons (.ifs (.bop false (.cons (.not_ (.call "is_whole" (.cons (.var 2) (.cons (.cst (.int 0)) .nil)))) (.cons (.o2 .gt (.var 2) (.glb "MOST_TURNS")) .nil))) (.cons .never
 .nil) .nil)
 (.cons (.asg (.name 4) (.var 1))
 (.cons (.for_ (.name 5) (.rng1 (.var 2)) b_by_turns_t_1)
 (.cons (.ret (.var 3))
 .nil))))))
def d_by_turns_t : Df := ⟨3, 6, b_by_turns_t, false, [("pair" : Str), ("first" : Str), ("many" : Str)], [(("first" : Str), (.str "other")), (("many" : Str), (.int 10))]⟩
def b_law_jar : Sms := (.cons (.ret (.lst false (.cons (.bi .max2 (.cons (.cst (.int 0)) (.cons (.o2 .sub (.var 0) (.o2 .pow (.cst (.int 10)) (.cst (.int 18)))) .nil))) (.cons (.o2 .add (.o2 .add (.o2 .pow (.o2 .mod (.var 0) (.o2 .add (.o2 .pow (.cst (.int 10)) (.cst (.int 38))) (.cst (.int 133)))) (.cst (.int 3))) (.o2 .mul (.cst (.int 1299721)) (.var 1))) (.cst (.int 271828182845904523))) (.cons (.cst (.int 0)) .nil)))))
 .nil)
def d_law_jar : Df := ⟨2, 2, b_law_jar, false, [("cell" : Str), ("k" : Str)], []⟩
def b_law_pull : Sms := (.cons (.ifs (.o2 .gt (.o2 .idx (.var 0) (.cst (.int 0))) (.cst (.int 0))) (.cons (.asg (.name 2) (.o2 .mod (.o2 .idx (.var 0) (.cst (.int 0))) (.var 1)))
 (.cons (.asgI (.var 0) (.cst (.int 0)) (.o2 .fdiv (.o2 .idx (.var 0) (.cst (.int 0))) (.var 1)))
 (.cons (.ret (.var 2))
 .nil))) .nil)
 (.cons (.asgI (.var 0) (.cst (.int 2)) (.o2 .add (.o2 .idx (.var 0) (.cst (.int 2))) (.cst (.int 1))))
 (.cons (.asgI (.var 0) (.cst (.int 1)) (.o2 .mod (.o2 .add (.o2 .add (.o2 .pow (.o2 .idx (.var 0) (.cst (.int 1))) (.cst (.int 3))) (.o2 .mul (.cst (.int 39916801)) (.o2 .idx (.var 0) (.cst (.int 2))))) (.cst (.int 5))) (.o2 .add (.o2 .pow (.cst (.int 10)) (.cst (.int 33))) (.cst (.int 61)))))
 (.cons (.ret (.o2 .mod (.o2 .fdiv (.o2 .idx (.var 0) (.cst (.int 1))) (.o2 .pow (.cst (.int 10)) (.cst (.int 8)))) (.var 1)))
 .nil))))
def d_law_pull : Df := ⟨2, 3, b_law_pull, false, [("jar" : Str), ("count" : Str)], []⟩
def b_law_cells : Sms := (.cons (.ret (.o2 .add (.sl (.var 0) .no (.so (.var 1))) (.o2 .mul (.lst true (.cons (.cst (.int 0)) .nil)) (.bi .int (.cons (.o2 .eq (.var 0) (.lst true .nil)) .nil)))))
 .nil)
def d_law_cells : Df := ⟨2, 2, b_law_cells, true, [("script" : Str), ("most" : Str)], []⟩
def b_law_row_1 : Sms := (.cons (.asg (.name 6) (.o2 .add (.o2 .add (.o2 .add (.var 4) (.cst (.int 1))) (.bi .int (.cons (.o2 .gt (.var 5) (.cst (.int 0))) .nil))) (.call "_law_pull" (.cons (.var 0) (.cons (.var 2) .nil)))))
 (.cons (.asg (.name 4) (.o2 .add (.var 6) (.call "_law_pull" (.cons (.var 0) (.cons (.var 2) .nil)))))
 (.cons (.ex (.lm .append (.var 3) (.cons (.tup (.cons (.var 6) (.cons (.var 4) .nil))) .nil)))
 .nil)))
def b_law_row : Sms := (.cons (.asg (.name 3) (.lst false .nil))
 (.cons (.asg (.name 4) (.cst (.int 0)))
 (.cons (.for_ (.name 5) (.rng1 (.call "_law_pull" (.cons (.var 0) (.cons (.o2 .add (.var 1) (.cst (.int 1))) .nil)))) b_law_row_1)
 (.cons (.ret (.frz (.var 3)))
 .nil))))
def d_law_row : Df := ⟨3, 7, b_law_row, false, [("jar" : Str), ("most" : Str), ("wide" : Str)], []⟩
def b_law_pair : Sms := (.cons (.asg (.tup (.cons (.name 1) (.cons (.name 2) .nil))) (.o2 .idx (.lst true (.cons (.tup (.cons (.cst (.int 3)) (.cons (.cst (.int 2)) .nil))) (.cons (.tup (.cons (.cst (.int 4)) (.cons (.cst (.int 4)) .nil))) (.cons (.tup (.cons (.cst (.int 30)) (.cons (.cst (.int 3)) .nil))) (.cons (.tup (.cons (.cst (.int 30)) (.cons (.o2 .pow (.cst (.int 10)) (.cst (.int 38))) .nil))) .nil))))) (.call "_law_pull" (.cons (.var 0) (.cons (.cst (.int 4)) .nil)))))
 (.cons (.ret (.tup (.cons (.call "_law_row" (.cons (.var 0) (.cons (.var 1) (.cons (.var 2) .nil)))) (.cons (.call "_law_row" (.cons (.var 0) (.cons (.o2 .idx (.lst true (.cons (.var 1) (.cons (.cst (.int 2)) .nil))) (.call "_law_pull" (.cons (.var 0) (.cons (.cst (.int 2)) .nil)))) (.cons (.var 2) .nil)))) .nil))))
 .nil))
def d_law_pair : Df := ⟨1, 3, b_law_pair, false, [("jar" : Str)], []⟩
def x_law_count_1 : Ex := (.comp true [1, 2] (.tup (.cons (.name 1) (.cons (.name 2) .nil))) (.seq (.var 0)) .no (.o2 .add (.o2 .sub (.var 2) (.var 1)) (.cst (.int 1))))
def b_law_count : Sms := (.cons (.ret (.bi .sum (.cons x_law_count_1 .nil)))
 .nil)
def d_law_count : Df := ⟨1, 3, b_law_count, true, [("row" : Str)], []⟩
def x_law_has_1 : Ex := (.comp true [2, 3] (.tup (.cons (.name 2) (.cons (.name 3) .nil))) (.seq (.var 0)) (.so (.bop true (.cons (.o2 .le (.var 2) (.var 1)) (.cons (.o2 .le (.var 1) (.var 3)) .nil)))) (.cst (.int 1)))
def b_law_has : Sms := (.cons (.ret (.o2 .ne x_law_has_1 (.lst true .nil)))
 .nil)
def d_law_has : Df := ⟨2, 4, b_law_has, true, [("row" : Str), ("spot" : Str)], []⟩
def x_law_flip_1 : Ex := (.comp true [7] (.name 7) (.seq (.var 5)) (.so (.o2 .le (.o2 .idx (.var 7) (.cst (.int 0))) (.o2 .idx (.var 7) (.cst (.int 1))))) (.var 7))
def b_law_flip_2 : Sms := (.cons (.asg (.name 5) (.lst true (.cons (.tup (.cons (.var 3) (.cons (.bi .min2 (.cons (.var 4) (.cons (.o2 .sub (.var 1) (.cst (.int 1))) .nil))) .nil))) (.cons (.tup (.cons (.bi .max2 (.cons (.var 3) (.cons (.o2 .add (.var 1) (.cst (.int 1))) .nil))) (.cons (.var 4) .nil))) .nil))))
 (.cons (.ex (.lm .extend (.var 2) (.cons x_law_flip_1 .nil)))
 .nil))
def b_law_flip_3 : Sms := (.cons (.ifs (.bop true (.cons (.o2 .ne (.var 6) (.lst true .nil)) (.cons (.o2 .eq (.o2 .add (.o2 .idx (.o2 .idx (.var 6) (.o1 .neg (.cst (.int 1)))) (.cst (.int 1))) (.cst (.int 1))) (.var 3)) .nil))) (.cons (.asgI (.var 6) (.o1 .neg (.cst (.int 1))) (.tup (.cons (.o2 .idx (.o2 .idx (.var 6) (.o1 .neg (.cst (.int 1)))) (.cst (.int 0))) (.cons (.var 4) .nil))))
 .nil) (.cons (.ex (.lm .append (.var 6) (.cons (.tup (.cons (.var 3) (.cons (.var 4) .nil))) .nil)))
 .nil))
 .nil)
def b_law_flip : Sms := (.cons (.asg (.name 2) (.lst false .nil))
 (.cons (.for_ (.tup (.cons (.name 3) (.cons (.name 4) .nil))) (.seq (.var 0)) b_law_flip_2)
 (.cons (.ifs (.bop true (.cons (.o2 .gt (.var 1) (.cst (.int 0))) (.cons (.not_ (.call "_law_has" (.cons (.var 0) (.cons (.var 1) .nil)))) .nil))) (.cons (.ex (.lm .append (.var 2) (.cons (.tup (.cons (.var 1) (.cons (.var 1) .nil))) .nil)))
 .nil) .nil)
 (.cons (.asg (.name 6) (.lst false .nil))
 (.cons (.for_ (.tup (.cons (.name 3) (.cons (.name 4) .nil))) (.seq (.bi .sorted (.cons (.var 2) .nil))) b_law_flip_3)
 (.cons (.ret (.frz (.var 6)))
 .nil))))))
def d_law_flip : Df := ⟨2, 8, b_law_flip, true, [("row" : Str), ("spot" : Str)], []⟩
def b_law_turn : Sms := (.cons (.asg (.tup (.cons (.name 2) (.cons (.name 3) .nil))) (.var 0))
 (.cons (.ifs (.o2 .eq (.var 1) (.cst (.str "one"))) (.cons (.ret (.tup (.cons (.call "_law_flip" (.cons (.var 2) (.cons (.call "_law_count" (.cons (.var 3) .nil)) .nil))) (.cons (.var 3) .nil))))
 .nil) .nil)
 (.cons (.ret (.tup (.cons (.var 2) (.cons (.call "_law_flip" (.cons (.var 3) (.cons (.call "_law_count" (.cons (.var 2) .nil)) .nil))) .nil))))
 .nil)))
def d_law_turn : Df := ⟨2, 4, b_law_turn, true, [("two" : Str), ("mover" : Str)], []⟩
def x_law_exact_1 : Ex := (.comp true [2, 3] (.tup (.cons (.name 2) (.cons (.name 3) .nil))) (.zip (.var 0) (.var 1)) .no (.call "_law_exact" (.cons (.var 2) (.cons (.var 3) .nil))))
def b_law_exact : Sms := (.cons (.ifs (.o1 .isN (.var 1)) (.cons (.ret (.o1 .isN (.var 0)))
 .nil) .nil)
 (.cons (.ifs (.isi (.var 1) [.list, .tuple]) (.cons (.ifs (.bop false (.cons (.o2 .ne (.isi (.var 0) [.list]) (.isi (.var 1) [.list])) (.cons (.o2 .ne (.isi (.var 0) [.tuple]) (.isi (.var 1) [.tuple])) .nil))) (.cons (.ret (.cst (.bool false)))
 .nil) .nil)
 (.cons (.ret (.bop true (.cons (.o2 .eq (.bi .len (.cons (.var 0) .nil)) (.bi .len (.cons (.var 1) .nil))) (.cons (.bi .all (.cons x_law_exact_1 .nil)) .nil))))
 .nil)) .nil)
 (.cons (.ret (.bop true (.cons (.o2 .eq (.isi (.var 0) [.bool]) (.isi (.var 1) [.bool])) (.cons (.o2 .eq (.var 0) (.var 1)) .nil))))
 .nil)))
def d_law_exact : Df := ⟨2, 4, b_law_exact, true, [("found" : Str), ("due" : Str)], []⟩
def x_law_handed_1 : Ex := (.comp true [5] (.name 5) (.seq (.var 3)) .no (.bi .list (.cons (.var 5) .nil)))
def b_law_handed_2 : Sms := (.cons (.asg (.name 4) (.lst true (.cons (.var 3) (.cons (.bi .tuple (.cons (.var 3) .nil)) (.cons x_law_handed_1 .nil)))))
 (.cons (.ex (.lm .append (.var 2) (.cons (.o2 .idx (.var 4) (.call "_law_pull" (.cons (.var 0) (.cons (.cst (.int 3)) .nil)))) .nil)))
 .nil))
def b_law_handed : Sms := (.cons (.asg (.name 2) (.lst false .nil))
 (.cons (.for_ (.name 3) (.seq (.var 1)) b_law_handed_2)
 (.cons (.ret (.ite (.o2 .eq (.call "_law_pull" (.cons (.var 0) (.cons (.cst (.int 2)) .nil))) (.cst (.int 0))) (.bi .tuple (.cons (.var 2) .nil)) (.frz (.var 2))))
 .nil)))
def d_law_handed : Df := ⟨2, 6, b_law_handed, false, [("jar" : Str), ("two" : Str)], []⟩
def b_law_due_1 : Sms := (.cons (.ex (.lm .append (.var 3) (.cons (.call "_law_turn" (.cons (.o2 .idx (.var 3) (.o1 .neg (.cst (.int 1)))) (.cons (.var 1) .nil))) .nil)))
 (.cons (.asg (.name 1) (.o2 .idx (.lst true (.cons (.cst (.str "one")) (.cons (.cst (.str "other")) .nil))) (.bi .int (.cons (.o2 .eq (.var 1) (.cst (.str "one"))) .nil))))
 .nil))
def b_law_due : Sms := (.cons (.asg (.name 3) (.lst false (.cons (.var 0) .nil)))
 (.cons (.for_ (.name 4) (.rng1 (.var 2)) b_law_due_1)
 (.cons (.ret (.frz (.var 3)))
 .nil)))
def d_law_due : Df := ⟨3, 5, b_law_due, true, [("two" : Str), ("mover" : Str), ("count" : Str)], []⟩
def b_law_right : Sms := (.cons (.asg (.name 2) (.call "_law_pair" (.cons (.var 0) .nil)))
 (.cons (.asg (.name 3) (.call "_law_handed" (.cons (.var 0) (.cons (.var 2) .nil))))
 (.cons (.asg (.name 4) (.o2 .idx (.lst true (.cons (.cst (.str "one")) (.cons (.cst (.str "other")) .nil))) (.call "_law_pull" (.cons (.var 0) (.cons (.cst (.int 2)) .nil)))))
 (.cons (.asg (.name 5) (.ite (.o2 .lt (.var 1) (.cst (.int 100))) (.call "_law_pull" (.cons (.var 0) (.cons (.cst (.int 41)) .nil))) (.var 1)))
 (.cons (.asg (.name 6) (.call "_law_due" (.cons (.var 2) (.cons (.var 4) (.cons (.var 5) .nil)))))
 (.cons (.asg (.name 7) (.callk "by_turns'*" (.cons (.var 3) .nil) ["first", "many"] (.cons (.var 4) (.cons (.var 5) .nil))))
 (.cons (.ifs (.not_ (.call "_law_exact" (.cons (.var 7) (.cons (.var 6) .nil)))) (.cons (.ret (.cst (.bool false)))
 .nil) .nil)
 (.cons (.ex (.lm .append (.o2 .idx (.o2 .idx (.var 7) (.cst (.int 0))) (.cst (.int 0))) (.cons (.tup (.cons (.cst (.int 1)) (.cons (.cst (.int 1)) .nil))) .nil)))
 (.cons (.ex (.lm .append (.o2 .idx (.o2 .idx (.var 7) (.cst (.int 0))) (.cst (.int 1))) (.cons (.tup (.cons (.cst (.int 1)) (.cons (.cst (.int 1)) .nil))) .nil)))
 (.cons (.ifs (.not_ (.call "_law_exact" (.cons (.sl (.var 7) (.so (.cst (.int 1))) .no) (.cons (.sl (.var 6) (.so (.cst (.int 1))) .no) .nil)))) (.cons (.ret (.cst (.bool false)))
 .nil) .nil)
 (.cons (.ex (.lm .clear (.var 7) .nil))
 (.cons (.ifs (.not_ (.call "_law_exact" (.cons (.callk "by_turns*" .nil ["many", "pair", "first"] (.cons (.var 5) (.cons (.var 3) (.cons (.var 4) .nil)))) (.cons (.var 6) .nil)))) (.cons (.ret (.cst (.bool false)))
 .nil) .nil)
 (.cons (.ret (.call "_law_exact" (.cons (.callk "by_turns*" (.cons (.var 3) .nil) [] .nil) (.cons (.call "_law_due" (.cons (.var 2) (.cons (.cst (.str "other")) (.cons (.cst (.int 10)) .nil)))) .nil))))
 .nil)))))))))))))
def d_law_right : Df := ⟨2, 8, b_law_right, false, [("jar" : Str), ("most" : Str)], []⟩
def b_law_1 : Sms := (.cons (.ifs (.not_ (.call "_law_right" (.cons (.var 3) (.cons (.o2 .idx (.lst true (.cons (.cst (.int 40)) (.cons (.cst (.int 299)) .nil))) (.bi .int (.cons (.var 4) .nil))) .nil)))) (.cons (.ret (.cst (.bool false)))
 .nil) .nil)
 .nil)
def b_law_2 : Sms := (.cons (.asg (.name 3) (.call "_law_jar" (.cons (.o2 .idx (.var 1) (.var 2)) (.cons (.var 2) .nil))))
 (.cons (.asg (.name 4) (.bop true (.cons (.o2 .eq (.var 2) (.cst (.int 0))) (.cons (.o2 .eq (.call "_law_pull" (.cons (.var 3) (.cons (.cst (.int 6)) .nil))) (.cst (.int 0))) .nil))))
 (.cons (.for_ (.name 5) (.rng1 (.cst (.int 2))) b_law_1)
 .nil)))
def b_law : Sms := (.cons (.asg (.name 1) (.call "_law_cells" (.cons (.var 0) (.cons (.cst (.int 5)) .nil))))
 (.cons (.for_ (.name 2) (.rng1 (.bi .len (.cons (.var 1) .nil))) b_law_2)
 (.cons (.ret (.cst (.bool true)))
 .nil)))
def d_law : Df := ⟨1, 6, b_law, true, [("script" : Str)], []⟩
def tab : List (Str × Df) := [(("is_whole" : Str), d_is_whole), (("is_stretch" : Str), d_is_stretch), (("is_row" : Str), d_is_row), (("is_pair" : Str), d_is_pair), (("plain" : Str), d_plain), (("plain'" : Str), d_plain_t), (("need_row" : Str), d_need_row), (("need_row'" : Str), d_need_row_t), (("edges_of" : Str), d_edges_of), (("row_by" : Str), d_row_by), (("row_by'" : Str), d_row_by_t), (("unlike" : Str), d_unlike), (("heads" : Str), d_heads), (("turned_over" : Str), d_turned_over), (("turned_over'" : Str), d_turned_over_t), (("plain_pair" : Str), d_plain_pair), (("plain_pair'" : Str), d_plain_pair_t), (("need_who" : Str), d_need_who), (("who_else" : Str), d_who_else), (("turned_by" : Str), d_turned_by), (("turned_by'" : Str), d_turned_by_t), (("by_turns*" : Str), d_by_turns), (("by_turns'*" : Str), d_by_turns_t), (("_law_jar" : Str), d_law_jar), (("_law_pull" : Str), d_law_pull), (("_law_cells" : Str), d_law_cells), (("_law_row" : Str), d_law_row), (("_law_pair" : Str), d_law_pair), (("_law_count" : Str), d_law_count), (("_law_has" : Str), d_law_has), (("_law_flip" : Str), d_law_flip), (("_law_turn" : Str), d_law_turn), (("_law_exact" : Str), d_law_exact), (("_law_handed" : Str), d_law_handed), (("_law_due" : Str), d_law_due), (("_law_right" : Str), d_law_right), (("law" : Str), d_law)]
def con : Str → Option PyData := fun x => List.lookup x [("ONE", (.str "one")), ("OTHER", (.str "other")), ("WHOS", (.tuple [(.str "one"), (.str "other")])), ("MOST_TURNS", (.int 299))]
def md : Md := ⟨fun f => tab.lookup f, con, 1000000000, [("by_turns*", 0, [("many" : Str), ("pair" : Str), ("first" : Str)]), ("by_turns*", 1, []), ("by_turns'*", 1, [("first" : Str), ("many" : Str)])]⟩
theorem md_kp : md.kp = [(("by_turns*" : Str), 0, [("many" : Str), ("pair" : Str), ("first" : Str)]), (("by_turns*" : Str), 1, []), (("by_turns'*" : Str), 1, [("first" : Str), ("many" : Str)])] := rfl
theorem t_is_whole : md.tb "is_whole" = some d_is_whole := rfl
theorem t_is_stretch : md.tb "is_stretch" = some d_is_stretch := rfl
theorem t_is_row : md.tb "is_row" = some d_is_row := rfl
theorem t_is_pair : md.tb "is_pair" = some d_is_pair := rfl
theorem t_plain : md.tb "plain" = some d_plain := rfl
theorem t_plain_t : md.tb "plain'" = some d_plain_t := rfl
theorem t_need_row : md.tb "need_row" = some d_need_row := rfl
theorem t_need_row_t : md.tb "need_row'" = some d_need_row_t := rfl
theorem t_edges_of : md.tb "edges_of" = some d_edges_of := rfl
theorem t_row_by : md.tb "row_by" = some d_row_by := rfl
theorem t_row_by_t : md.tb "row_by'" = some d_row_by_t := rfl
theorem t_unlike : md.tb "unlike" = some d_unlike := rfl
theorem t_heads : md.tb "heads" = some d_heads := rfl
theorem t_turned_over : md.tb "turned_over" = some d_turned_over := rfl
theorem t_turned_over_t : md.tb "turned_over'" = some d_turned_over_t := rfl
theorem t_plain_pair : md.tb "plain_pair" = some d_plain_pair := rfl
theorem t_plain_pair_t : md.tb "plain_pair'" = some d_plain_pair_t := rfl
theorem t_need_who : md.tb "need_who" = some d_need_who := rfl
theorem t_who_else : md.tb "who_else" = some d_who_else := rfl
theorem t_turned_by : md.tb "turned_by" = some d_turned_by := rfl
theorem t_turned_by_t : md.tb "turned_by'" = some d_turned_by_t := rfl
theorem t_by_turns : md.tb "by_turns*" = some d_by_turns := rfl
theorem t_by_turns_t : md.tb "by_turns'*" = some d_by_turns_t := rfl
theorem t_law_jar : md.tb "_law_jar" = some d_law_jar := rfl
theorem t_law_pull : md.tb "_law_pull" = some d_law_pull := rfl
theorem t_law_cells : md.tb "_law_cells" = some d_law_cells := rfl
theorem t_law_row : md.tb "_law_row" = some d_law_row := rfl
theorem t_law_pair : md.tb "_law_pair" = some d_law_pair := rfl
theorem t_law_count : md.tb "_law_count" = some d_law_count := rfl
theorem t_law_has : md.tb "_law_has" = some d_law_has := rfl
theorem t_law_flip : md.tb "_law_flip" = some d_law_flip := rfl
theorem t_law_turn : md.tb "_law_turn" = some d_law_turn := rfl
theorem t_law_exact : md.tb "_law_exact" = some d_law_exact := rfl
theorem t_law_handed : md.tb "_law_handed" = some d_law_handed := rfl
theorem t_law_due : md.tb "_law_due" = some d_law_due := rfl
theorem t_law_right : md.tb "_law_right" = some d_law_right := rfl
theorem t_law : md.tb "law" = some d_law := rfl
end MP.P

namespace MP.P
open PySem MP L2
def st_is_whole : Stmt := PySem.Challenge.pw_turntell_k20_pairs_by_turns.main.body.getD 8 (.Pass ⟨0, 0, 0, 0⟩)
theorem sc_is_whole : FnScope [("thing" : Str), ("least" : Str)] [("thing" : Str), ("least" : Str)] (defScope st_is_whole) := ⟨rfl, rfl, rfl, by decide +kernel, rfl, by decide +kernel, by decide +kernel⟩
theorem ok_is_whole : chB con [("thing" : Str), ("least" : Str)] (defScope st_is_whole) b_is_whole (defBody st_is_whole) = true := by decide +kernel
def st_is_stretch : Stmt := PySem.Challenge.pw_turntell_k20_pairs_by_turns.main.body.getD 9 (.Pass ⟨0, 0, 0, 0⟩)
theorem sc_is_stretch : FnScope [("thing" : Str)] [("thing" : Str)] (defScope st_is_stretch) := ⟨rfl, rfl, rfl, by decide +kernel, rfl, by decide +kernel, by decide +kernel⟩
theorem ok_is_stretch : chB con [("thing" : Str)] (defScope st_is_stretch) b_is_stretch (defBody st_is_stretch) = true := by decide +kernel
def st_is_row : Stmt := PySem.Challenge.pw_turntell_k20_pairs_by_turns.main.body.getD 10 (.Pass ⟨0, 0, 0, 0⟩)
theorem sc_is_row : FnScope [("thing" : Str), ("one" : Str), ("ahead" : Str), ("later" : Str)] [("thing" : Str)] (defScope st_is_row) := ⟨rfl, rfl, rfl, by decide +kernel, rfl, by decide +kernel, by decide +kernel⟩
theorem ok_is_row : chB con [("thing" : Str), ("one" : Str), ("ahead" : Str), ("later" : Str)] (defScope st_is_row) b_is_row (defBody st_is_row) = true := by decide +kernel
def st_is_pair : Stmt := PySem.Challenge.pw_turntell_k20_pairs_by_turns.main.body.getD 11 (.Pass ⟨0, 0, 0, 0⟩)
theorem sc_is_pair : FnScope [("thing" : Str)] [("thing" : Str)] (defScope st_is_pair) := ⟨rfl, rfl, rfl, by decide +kernel, rfl, by decide +kernel, by decide +kernel⟩
theorem ok_is_pair : chB con [("thing" : Str)] (defScope st_is_pair) b_is_pair (defBody st_is_pair) = true := by decide +kernel
def st_plain : Stmt := PySem.Challenge.pw_turntell_k20_pairs_by_turns.main.body.getD 12 (.Pass ⟨0, 0, 0, 0⟩)
theorem sc_plain : FnScope [("row" : Str), ("first" : Str), ("last" : Str)] [("row" : Str)] (defScope st_plain) := ⟨rfl, rfl, rfl, by decide +kernel, rfl, by decide +kernel, by decide +kernel⟩
theorem ok_plain : chB con [("row" : Str), ("first" : Str), ("last" : Str)] (defScope st_plain) b_plain (defBody st_plain) = true := by decide +kernel
def st_plain_t : Stmt := PySem.Challenge.pw_turntell_k20_pairs_by_turns.main.body.getD 12 (.Pass ⟨0, 0, 0, 0⟩)
theorem sc_plain_t : FnScope [("row" : Str), ("first" : Str), ("last" : Str)] [("row" : Str)] (defScope st_plain_t) := ⟨rfl, rfl, rfl, by decide +kernel, rfl, by decide +kernel, by decide +kernel⟩
theorem ok_plain_t : chB con [("row" : Str), ("first" : Str), ("last" : Str)] (defScope st_plain_t) b_plain_t (defBody st_plain_t) = true := by decide +kernel
def st_need_row : Stmt := PySem.Challenge.pw_turntell_k20_pairs_by_turns.main.body.getD 13 (.Pass ⟨0, 0, 0, 0⟩)
theorem sc_need_row : FnScope [("row" : Str)] [("row" : Str)] (defScope st_need_row) := ⟨rfl, rfl, rfl, by decide +kernel, rfl, by decide +kernel, by decide +kernel⟩
theorem ok_need_row : chB con [("row" : Str)] (defScope st_need_row) b_need_row (defBody st_need_row) = true := by decide +kernel
def st_need_row_t : Stmt := PySem.Challenge.pw_turntell_k20_pairs_by_turns.main.body.getD 13 (.Pass ⟨0, 0, 0, 0⟩)
theorem sc_need_row_t : FnScope [("row" : Str)] [("row" : Str)] (defScope st_need_row_t) := ⟨rfl, rfl, rfl, by decide +kernel, rfl, by decide +kernel, by decide +kernel⟩
theorem ok_need_row_t : chB con [("row" : Str)] (defScope st_need_row_t) b_need_row_t (defBody st_need_row_t) = true := by decide +kernel
def st_edges_of : Stmt := PySem.Challenge.pw_turntell_k20_pairs_by_turns.main.body.getD 14 (.Pass ⟨0, 0, 0, 0⟩)
theorem sc_edges_of : FnScope [("row" : Str), ("first" : Str), ("last" : Str), ("edge" : Str)] [("row" : Str)] (defScope st_edges_of) := ⟨rfl, rfl, rfl, by decide +kernel, rfl, by decide +kernel, by decide +kernel⟩
theorem ok_edges_of : chB con [("row" : Str), ("first" : Str), ("last" : Str), ("edge" : Str)] (defScope st_edges_of) b_edges_of (defBody st_edges_of) = true := by decide +kernel
def st_row_by : Stmt := PySem.Challenge.pw_turntell_k20_pairs_by_turns.main.body.getD 15 (.Pass ⟨0, 0, 0, 0⟩)
theorem sc_row_by : FnScope [("edges" : Str), ("first" : Str), ("behind" : Str)] [("edges" : Str)] (defScope st_row_by) := ⟨rfl, rfl, rfl, by decide +kernel, rfl, by decide +kernel, by decide +kernel⟩
theorem ok_row_by : chB con [("edges" : Str), ("first" : Str), ("behind" : Str)] (defScope st_row_by) b_row_by (defBody st_row_by) = true := by decide +kernel
def st_row_by_t : Stmt := PySem.Challenge.pw_turntell_k20_pairs_by_turns.main.body.getD 15 (.Pass ⟨0, 0, 0, 0⟩)
theorem sc_row_by_t : FnScope [("edges" : Str), ("first" : Str), ("behind" : Str)] [("edges" : Str)] (defScope st_row_by_t) := ⟨rfl, rfl, rfl, by decide +kernel, rfl, by decide +kernel, by decide +kernel⟩
theorem ok_row_by_t : chB con [("edges" : Str), ("first" : Str), ("behind" : Str)] (defScope st_row_by_t) b_row_by_t (defBody st_row_by_t) = true := by decide +kernel
def st_unlike : Stmt := PySem.Challenge.pw_turntell_k20_pairs_by_turns.main.body.getD 16 (.Pass ⟨0, 0, 0, 0⟩)
theorem sc_unlike : FnScope [("some" : Str), ("others" : Str), ("one" : Str)] [("some" : Str), ("others" : Str)] (defScope st_unlike) := ⟨rfl, rfl, rfl, by decide +kernel, rfl, by decide +kernel, by decide +kernel⟩
theorem ok_unlike : chB con [("some" : Str), ("others" : Str), ("one" : Str)] (defScope st_unlike) b_unlike (defBody st_unlike) = true := by decide +kernel
def st_heads : Stmt := PySem.Challenge.pw_turntell_k20_pairs_by_turns.main.body.getD 17 (.Pass ⟨0, 0, 0, 0⟩)
theorem sc_heads : FnScope [("row" : Str), ("first" : Str), ("last" : Str)] [("row" : Str)] (defScope st_heads) := ⟨rfl, rfl, rfl, by decide +kernel, rfl, by decide +kernel, by decide +kernel⟩
theorem ok_heads : chB con [("row" : Str), ("first" : Str), ("last" : Str)] (defScope st_heads) b_heads (defBody st_heads) = true := by decide +kernel
def st_turned_over : Stmt := PySem.Challenge.pw_turntell_k20_pairs_by_turns.main.body.getD 18 (.Pass ⟨0, 0, 0, 0⟩)
theorem sc_turned_over : FnScope [("row" : Str), ("place" : Str), ("stretches" : Str)] [("row" : Str), ("place" : Str)] (defScope st_turned_over) := ⟨rfl, rfl, rfl, by decide +kernel, rfl, by decide +kernel, by decide +kernel⟩
theorem ok_turned_over : chB con [("row" : Str), ("place" : Str), ("stretches" : Str)] (defScope st_turned_over) b_turned_over (defBody st_turned_over) = true := by decide +kernel
def st_turned_over_t : Stmt := PySem.Challenge.pw_turntell_k20_pairs_by_turns.main.body.getD 18 (.Pass ⟨0, 0, 0, 0⟩)
theorem sc_turned_over_t : FnScope [("row" : Str), ("place" : Str), ("stretches" : Str)] [("row" : Str), ("place" : Str)] (defScope st_turned_over_t) := ⟨rfl, rfl, rfl, by decide +kernel, rfl, by decide +kernel, by decide +kernel⟩
theorem ok_turned_over_t : chB con [("row" : Str), ("place" : Str), ("stretches" : Str)] (defScope st_turned_over_t) b_turned_over_t (defBody st_turned_over_t) = true := by decide +kernel
def st_plain_pair : Stmt := PySem.Challenge.pw_turntell_k20_pairs_by_turns.main.body.getD 24 (.Pass ⟨0, 0, 0, 0⟩)
theorem sc_plain_pair : FnScope [("pair" : Str)] [("pair" : Str)] (defScope st_plain_pair) := ⟨rfl, rfl, rfl, by decide +kernel, rfl, by decide +kernel, by decide +kernel⟩
theorem ok_plain_pair : chB con [("pair" : Str)] (defScope st_plain_pair) b_plain_pair (defBody st_plain_pair) = true := by decide +kernel
def st_plain_pair_t : Stmt := PySem.Challenge.pw_turntell_k20_pairs_by_turns.main.body.getD 24 (.Pass ⟨0, 0, 0, 0⟩)
theorem sc_plain_pair_t : FnScope [("pair" : Str)] [("pair" : Str)] (defScope st_plain_pair_t) := ⟨rfl, rfl, rfl, by decide +kernel, rfl, by decide +kernel, by decide +kernel⟩
theorem ok_plain_pair_t : chB con [("pair" : Str)] (defScope st_plain_pair_t) b_plain_pair_t (defBody st_plain_pair_t) = true := by decide +kernel
def st_need_who : Stmt := PySem.Challenge.pw_turntell_k20_pairs_by_turns.main.body.getD 25 (.Pass ⟨0, 0, 0, 0⟩)
theorem sc_need_who : FnScope [("who" : Str)] [("who" : Str)] (defScope st_need_who) := ⟨rfl, rfl, rfl, by decide +kernel, rfl, by decide +kernel, by decide +kernel⟩
theorem ok_need_who : chB con [("who" : Str)] (defScope st_need_who) b_need_who (defBody st_need_who) = true := by decide +kernel
def st_who_else : Stmt := PySem.Challenge.pw_turntell_k20_pairs_by_turns.main.body.getD 26 (.Pass ⟨0, 0, 0, 0⟩)
theorem sc_who_else : FnScope [("who" : Str)] [("who" : Str)] (defScope st_who_else) := ⟨rfl, rfl, rfl, by decide +kernel, rfl, by decide +kernel, by decide +kernel⟩
theorem ok_who_else : chB con [("who" : Str)] (defScope st_who_else) b_who_else (defBody st_who_else) = true := by decide +kernel
def st_turned_by : Stmt := PySem.Challenge.pw_turntell_k20_pairs_by_turns.main.body.getD 27 (.Pass ⟨0, 0, 0, 0⟩)
theorem sc_turned_by : FnScope [("pair" : Str), ("who" : Str), ("one" : Str), ("other" : Str)] [("pair" : Str), ("who" : Str)] (defScope st_turned_by) := ⟨rfl, rfl, rfl, by decide +kernel, rfl, by decide +kernel, by decide +kernel⟩
theorem ok_turned_by : chB con [("pair" : Str), ("who" : Str), ("one" : Str), ("other" : Str)] (defScope st_turned_by) b_turned_by (defBody st_turned_by) = true := by decide +kernel
def st_turned_by_t : Stmt := PySem.Challenge.pw_turntell_k20_pairs_by_turns.main.body.getD 27 (.Pass ⟨0, 0, 0, 0⟩)
theorem sc_turned_by_t : FnScope [("pair" : Str), ("who" : Str), ("one" : Str), ("other" : Str)] [("pair" : Str), ("who" : Str)] (defScope st_turned_by_t) := ⟨rfl, rfl, rfl, by decide +kernel, rfl, by decide +kernel, by decide +kernel⟩
theorem ok_turned_by_t : chB con [("pair" : Str), ("who" : Str), ("one" : Str), ("other" : Str)] (defScope st_turned_by_t) b_turned_by_t (defBody st_turned_by_t) = true := by decide +kernel
def st_by_turns : Stmt := PySem.Challenge.pw_turntell_k20_pairs_by_turns.main.body.getD 28 (.Pass ⟨0, 0, 0, 0⟩)
theorem sc_by_turns : FnScope [("pair" : Str), ("first" : Str), ("many" : Str), ("found" : Str), ("who" : Str), ("number" : Str)] [("pair" : Str), ("first" : Str), ("many" : Str)] (defScope st_by_turns) := ⟨rfl, rfl, rfl, by decide +kernel, rfl, by decide +kernel, by decide +kernel⟩
theorem ok_by_turns : chB con [("pair" : Str), ("first" : Str), ("many" : Str), ("found" : Str), ("who" : Str), ("number" : Str)] (defScope st_by_turns) b_by_turns (defBody st_by_turns) = true := by decide +kernel
def st_by_turns_t : Stmt := PySem.Challenge.pw_turntell_k20_pairs_by_turns.main.body.getD 28 (.Pass ⟨0, 0, 0, 0⟩)
theorem sc_by_turns_t : FnScope [("pair" : Str), ("first" : Str), ("many" : Str), ("found" : Str), ("who" : Str), ("number" : Str)] [("pair" : Str), ("first" : Str), ("many" : Str)] (defScope st_by_turns_t) := ⟨rfl, rfl, rfl, by decide +kernel, rfl, by decide +kernel, by decide +kernel⟩
theorem ok_by_turns_t : chB con [("pair" : Str), ("first" : Str), ("many" : Str), ("found" : Str), ("who" : Str), ("number" : Str)] (defScope st_by_turns_t) b_by_turns_t (defBody st_by_turns_t) = true := by decide +kernel
def st_law_jar : Stmt := PySem.Challenge.pw_turntell_k20_pairs_by_turns.main.body.getD 30 (.Pass ⟨0, 0, 0, 0⟩)
theorem sc_law_jar : FnScope [("cell" : Str), ("k" : Str)] [("cell" : Str), ("k" : Str)] (defScope st_law_jar) := ⟨rfl, rfl, rfl, by decide +kernel, rfl, by decide +kernel, by decide +kernel⟩
theorem ok_law_jar : chB con [("cell" : Str), ("k" : Str)] (defScope st_law_jar) b_law_jar (defBody st_law_jar) = true := by decide +kernel
def st_law_pull : Stmt := PySem.Challenge.pw_turntell_k20_pairs_by_turns.main.body.getD 31 (.Pass ⟨0, 0, 0, 0⟩)
theorem sc_law_pull : FnScope [("jar" : Str), ("count" : Str), ("found" : Str)] [("jar" : Str), ("count" : Str)] (defScope st_law_pull) := ⟨rfl, rfl, rfl, by decide +kernel, rfl, by decide +kernel, by decide +kernel⟩
theorem ok_law_pull : chB con [("jar" : Str), ("count" : Str), ("found" : Str)] (defScope st_law_pull) b_law_pull (defBody st_law_pull) = true := by decide +kernel
def st_law_cells : Stmt := PySem.Challenge.pw_turntell_k20_pairs_by_turns.main.body.getD 32 (.Pass ⟨0, 0, 0, 0⟩)
theorem sc_law_cells : FnScope [("script" : Str), ("most" : Str)] [("script" : Str), ("most" : Str)] (defScope st_law_cells) := ⟨rfl, rfl, rfl, by decide +kernel, rfl, by decide +kernel, by decide +kernel⟩
theorem ok_law_cells : chB con [("script" : Str), ("most" : Str)] (defScope st_law_cells) b_law_cells (defBody st_law_cells) = true := by decide +kernel
def st_law_row : Stmt := PySem.Challenge.pw_turntell_k20_pairs_by_turns.main.body.getD 33 (.Pass ⟨0, 0, 0, 0⟩)
theorem sc_law_row : FnScope [("jar" : Str), ("most" : Str), ("wide" : Str), ("found" : Str), ("at" : Str), ("k" : Str), ("begin" : Str)] [("jar" : Str), ("most" : Str), ("wide" : Str)] (defScope st_law_row) := ⟨rfl, rfl, rfl, by decide +kernel, rfl, by decide +kernel, by decide +kernel⟩
theorem ok_law_row : chB con [("jar" : Str), ("most" : Str), ("wide" : Str), ("found" : Str), ("at" : Str), ("k" : Str), ("begin" : Str)] (defScope st_law_row) b_law_row (defBody st_law_row) = true := by decide +kernel
def st_law_pair : Stmt := PySem.Challenge.pw_turntell_k20_pairs_by_turns.main.body.getD 34 (.Pass ⟨0, 0, 0, 0⟩)
theorem sc_law_pair : FnScope [("jar" : Str), ("most" : Str), ("wide" : Str)] [("jar" : Str)] (defScope st_law_pair) := ⟨rfl, rfl, rfl, by decide +kernel, rfl, by decide +kernel, by decide +kernel⟩
theorem ok_law_pair : chB con [("jar" : Str), ("most" : Str), ("wide" : Str)] (defScope st_law_pair) b_law_pair (defBody st_law_pair) = true := by decide +kernel
def st_law_count : Stmt := PySem.Challenge.pw_turntell_k20_pairs_by_turns.main.body.getD 35 (.Pass ⟨0, 0, 0, 0⟩)
theorem sc_law_count : FnScope [("row" : Str), ("begin" : Str), ("close" : Str)] [("row" : Str)] (defScope st_law_count) := ⟨rfl, rfl, rfl, by decide +kernel, rfl, by decide +kernel, by decide +kernel⟩
theorem ok_law_count : chB con [("row" : Str), ("begin" : Str), ("close" : Str)] (defScope st_law_count) b_law_count (defBody st_law_count) = true := by decide +kernel
def st_law_has : Stmt := PySem.Challenge.pw_turntell_k20_pairs_by_turns.main.body.getD 36 (.Pass ⟨0, 0, 0, 0⟩)
theorem sc_law_has : FnScope [("row" : Str), ("spot" : Str), ("begin" : Str), ("close" : Str)] [("row" : Str), ("spot" : Str)] (defScope st_law_has) := ⟨rfl, rfl, rfl, by decide +kernel, rfl, by decide +kernel, by decide +kernel⟩
theorem ok_law_has : chB con [("row" : Str), ("spot" : Str), ("begin" : Str), ("close" : Str)] (defScope st_law_has) b_law_has (defBody st_law_has) = true := by decide +kernel
def st_law_flip : Stmt := PySem.Challenge.pw_turntell_k20_pairs_by_turns.main.body.getD 37 (.Pass ⟨0, 0, 0, 0⟩)
theorem sc_law_flip : FnScope [("row" : Str), ("spot" : Str), ("parts" : Str), ("begin" : Str), ("close" : Str), ("some" : Str), ("found" : Str), ("part" : Str)] [("row" : Str), ("spot" : Str)] (defScope st_law_flip) := ⟨rfl, rfl, rfl, by decide +kernel, rfl, by decide +kernel, by decide +kernel⟩
theorem ok_law_flip : chB con [("row" : Str), ("spot" : Str), ("parts" : Str), ("begin" : Str), ("close" : Str), ("some" : Str), ("found" : Str), ("part" : Str)] (defScope st_law_flip) b_law_flip (defBody st_law_flip) = true := by decide +kernel
def st_law_turn : Stmt := PySem.Challenge.pw_turntell_k20_pairs_by_turns.main.body.getD 38 (.Pass ⟨0, 0, 0, 0⟩)
theorem sc_law_turn : FnScope [("two" : Str), ("mover" : Str), ("one" : Str), ("other" : Str)] [("two" : Str), ("mover" : Str)] (defScope st_law_turn) := ⟨rfl, rfl, rfl, by decide +kernel, rfl, by decide +kernel, by decide +kernel⟩
theorem ok_law_turn : chB con [("two" : Str), ("mover" : Str), ("one" : Str), ("other" : Str)] (defScope st_law_turn) b_law_turn (defBody st_law_turn) = true := by decide +kernel
def st_law_exact : Stmt := PySem.Challenge.pw_turntell_k20_pairs_by_turns.main.body.getD 39 (.Pass ⟨0, 0, 0, 0⟩)
theorem sc_law_exact : FnScope [("found" : Str), ("due" : Str), ("one" : Str), ("other" : Str)] [("found" : Str), ("due" : Str)] (defScope st_law_exact) := ⟨rfl, rfl, rfl, by decide +kernel, rfl, by decide +kernel, by decide +kernel⟩
theorem ok_law_exact : chB con [("found" : Str), ("due" : Str), ("one" : Str), ("other" : Str)] (defScope st_law_exact) b_law_exact (defBody st_law_exact) = true := by decide +kernel
def st_law_handed : Stmt := PySem.Challenge.pw_turntell_k20_pairs_by_turns.main.body.getD 40 (.Pass ⟨0, 0, 0, 0⟩)
theorem sc_law_handed : FnScope [("jar" : Str), ("two" : Str), ("both" : Str), ("row" : Str), ("some" : Str), ("stretch" : Str)] [("jar" : Str), ("two" : Str)] (defScope st_law_handed) := ⟨rfl, rfl, rfl, by decide +kernel, rfl, by decide +kernel, by decide +kernel⟩
theorem ok_law_handed : chB con [("jar" : Str), ("two" : Str), ("both" : Str), ("row" : Str), ("some" : Str), ("stretch" : Str)] (defScope st_law_handed) b_law_handed (defBody st_law_handed) = true := by decide +kernel
def st_law_due : Stmt := PySem.Challenge.pw_turntell_k20_pairs_by_turns.main.body.getD 41 (.Pass ⟨0, 0, 0, 0⟩)
theorem sc_law_due : FnScope [("two" : Str), ("mover" : Str), ("count" : Str), ("found" : Str), ("k" : Str)] [("two" : Str), ("mover" : Str), ("count" : Str)] (defScope st_law_due) := ⟨rfl, rfl, rfl, by decide +kernel, rfl, by decide +kernel, by decide +kernel⟩
theorem ok_law_due : chB con [("two" : Str), ("mover" : Str), ("count" : Str), ("found" : Str), ("k" : Str)] (defScope st_law_due) b_law_due (defBody st_law_due) = true := by decide +kernel
def st_law_right : Stmt := PySem.Challenge.pw_turntell_k20_pairs_by_turns.main.body.getD 42 (.Pass ⟨0, 0, 0, 0⟩)
theorem sc_law_right : FnScope [("jar" : Str), ("most" : Str), ("two" : Str), ("handed" : Str), ("mover" : Str), ("count" : Str), ("due" : Str), ("told" : Str)] [("jar" : Str), ("most" : Str)] (defScope st_law_right) := ⟨rfl, rfl, rfl, by decide +kernel, rfl, by decide +kernel, by decide +kernel⟩
theorem ok_law_right : chB con [("jar" : Str), ("most" : Str), ("two" : Str), ("handed" : Str), ("mover" : Str), ("count" : Str), ("due" : Str), ("told" : Str)] (defScope st_law_right) b_law_right (defBody st_law_right) = true := by decide +kernel
def st_law : Stmt := PySem.Challenge.pw_turntell_k20_pairs_by_turns.main.body.getD 43 (.Pass ⟨0, 0, 0, 0⟩)
theorem sc_law : FnScope [("script" : Str), ("cells" : Str), ("k" : Str), ("jar" : Str), ("wide" : Str), ("turn_number" : Str)] [("script" : Str)] (defScope st_law) := ⟨rfl, rfl, rfl, by decide +kernel, rfl, by decide +kernel, by decide +kernel⟩
theorem ok_law : chB con [("script" : Str), ("cells" : Str), ("k" : Str), ("jar" : Str), ("wide" : Str), ("turn_number" : Str)] (defScope st_law) b_law (defBody st_law) = true := by decide +kernel
end MP.P


/-! L_whole: is_whole. -/
namespace MP.P
open PySem MP
section
variable {M : Md} {k : Nat} {s : Sto}
theorem m_is_whole [Has M "is_whole" d_is_whole] (hk : 1 ≤ k) {a b : Int} : lev M k "is_whole" [.d (.int a), .d (.int b)] s = some (.d (.bool (decide (b ≤ a))), s) := by
  refine d_clean hk rfl rfl rfl ?_
  show Wl _ (exB _ b_is_whole [some (Vl.d (.int a)), some (Vl.d (.int b))] [])
  unfold b_is_whole
  repeat' decreasing_trivial_pre_omega
  exact ⟨by simp⟩
end
end MP.P


/-! L_rowA: what the defs of turntell.rows tell of a row as it was handed in: a list or a tuple, its stretches lists or tuples. -/
namespace MP.P
open PySem MP
section
variable {M : Md} {k : Nat} {s : Sto}
/-- a list or a tuple -/
def sq (t : Bool) (xs : List PyData) : PyData := if t then .tuple xs else .list xs
def pr (t : Bool) (p : Int × Int) : PyData := sq t [.int p.1, .int p.2]
def prI (p : Int × Int) : PyData := .tuple [.int p.1, .int p.2]
abbrev Row := List (Int × Int)
/-- a row with the kinds of its stretches -/
abbrev MRow := List (Bool × Int × Int)
def mr (t : Bool) (m : MRow) : PyData := sq t (m.map fun q => pr q.1 q.2)
abbrev rowOf (m : MRow) : Row := m.map fun q => q.2
def isStretch (p : Int × Int) : Bool := decide (1 ≤ p.1) && decide (p.1 ≤ p.2)
theorem m_is_stretch [Has M "is_whole" d_is_whole] [Has M "is_stretch" d_is_stretch] (hk : 2 ≤ k) {t : Bool} {p : Int × Int} : lev M k "is_stretch" [.d (pr t p)] s = some (.d (.bool (isStretch p)), s) := by
  have w1 : ∀ j, 1 ≤ j → ∀ a b s, lev M j "is_whole" [.d (.int a), .d (.int b)] s = some (.d (.bool (decide (b ≤ a))), s) := fun j hj a b s => m_is_whole hj
  refine d_clean (by omega) rfl rfl rfl ?_
  cases t
  · show Wl _ (exB _ b_is_stretch [some (Vl.d (.list [.int p.1, .int p.2]))] [])
    unfold b_is_stretch
    repeat' decreasing_trivial_pre_omega
    all_goals exact ⟨by simp_all [isStretch]⟩
  · show Wl _ (exB _ b_is_stretch [some (Vl.d (.tuple [.int p.1, .int p.2]))] [])
    unfold b_is_stretch
    repeat' decreasing_trivial_pre_omega
    all_goals exact ⟨by simp_all [isStretch]⟩
def isGap (q : (Int × Int) × (Int × Int)) : Bool := decide (q.1.2 + 2 ≤ q.2.1)
def isRow (r : Row) : Bool := r.all isStretch && (r.zip (r.drop 1)).all isGap
theorem cut1 {α : Type} (xs : List α) : cutD xs (some 1) none = xs.drop 1 := by
  unfold cutD
  cases xs with
  | nil => rfl
  | cons x r =>
    have e : HT.sIx (x :: r).length 0 (some 1) = 1 := by
      show (if (1 : Int) < 0 then ((1 : Int) + ((x :: r).length : Int)).toNat else min (1 : Int).toNat (x :: r).length) = 1
      rw [if_neg (by decide)]
      simp
    have e2 : HT.sIx (x :: r).length (x :: r).length none = (x :: r).length := rfl
    rw [e, e2]
    simp
theorem i_mr {G : Cn} {nv : Nv} {i : Nat} {t : Bool} {m : MRow} (h : nv[i]? = some (some (.d (mr t m)))) : evI G (.seq (.var i)) nv s = some ((m.map fun q => Vl.d (pr q.1 q.2), []), s) := by
  cases t
  · refine i_seq (e_var h) ?_
    show some ((m.map fun q => pr q.1 q.2).map Vl.d, []) = _
    rw [List.map_map]
    rfl
  · refine i_seq (e_var h) ?_
    show some ((m.map fun q => pr q.1 q.2).map Vl.d, []) = _
    rw [List.map_map]
    rfl
theorem i_row {G : Cn} {nv : Nv} {a : Ex} {s1 : Sto} {r : Row} (h : evE G a nv s = some (.d (.list (r.map prI)), s1)) : evI G (.seq a) nv s = some ((r.map fun p => Vl.d (prI p), []), s1) := by
  refine i_seq h ?_
  show some ((r.map prI).map Vl.d, []) = _
  rw [List.map_map]
  rfl
theorem m_is_row [Has M "is_whole" d_is_whole] [Has M "is_stretch" d_is_stretch] [Has M "is_row" d_is_row] (hk : 3 ≤ k) {t : Bool} {m : MRow} (hr : m.length ≤ 16000000) : lev M k "is_row" [.d (mr t m)] s = some (.d (.bool (isRow (rowOf m))), s) := by
  have w1 : ∀ j, 2 ≤ j → ∀ u p s, lev M j "is_stretch" [.d (pr u p)] s = some (.d (.bool (isStretch p)), s) := fun j hj u p s => m_is_stretch hj
  have z : (m.map fun q => pr q.1 q.2).zip (cutD (m.map fun q => pr q.1 q.2) (some 1) none) = (m.zip (m.drop 1)).map fun q => (pr q.1.1 q.1.2, pr q.2.1 q.2.2) := by
    rw [cut1, ← List.map_drop, List.zip_map]
    rfl
  refine d_clean (by omega) rfl rfl rfl ?_
  have c1 : evE (levG M (k - 1)) x_is_row_1 [some (Vl.d (mr t m)), none, none, none] [] = some (.d (.list (m.map fun p => .bool (isStretch p.2))), []) :=
    e_comp (l := m) (φ := fun q => Vl.d (pr q.1 q.2)) (fun p => .bool (isStretch p.2)) (i_mr rfl) okGb_nil hr fun p hp => ⟨_, rfl, c_no, e_call (es_cons (e_var rfl) es_nil) (w1 _ (by omega) _ _ _)⟩
  have c2 : evE (levG M (k - 1)) x_is_row_2 [some (Vl.d (mr t m)), none, none, none] [] = some (.d (.list ((m.zip (m.drop 1)).map fun p => .bool (isGap (p.1.2, p.2.2)))), []) := by
    refine e_comp (l := m.zip (m.drop 1)) (φ := fun q => Vl.d (.tuple [pr q.1.1 q.1.2, pr q.2.1 q.2.2])) (g := []) (fun p => .bool (isGap (p.1.2, p.2.2))) ?_ okGb_nil ?_ fun p hp => ⟨_, rfl, c_no, ?_⟩
    · cases t
      · have := i_zipL (G := levG M (k - 1)) (a := .var 0) (b := .sl (.var 0) (.so (.cst (.int 1))) .no) (r := [some (Vl.d (.list (m.map fun q => pr q.1 q.2))), none, none, none]) (s := []) (e_var rfl) (e_slL (e_var rfl) (ox_so e_cst) ox_no rfl rfl)
        rw [z, List.map_map] at this
        exact this
      · have := i_zipT (G := levG M (k - 1)) (a := .var 0) (b := .sl (.var 0) (.so (.cst (.int 1))) .no) (r := [some (Vl.d (.tuple (m.map fun q => pr q.1 q.2))), none, none, none]) (s := []) (e_var rfl) (e_slT (e_var rfl) (ox_so e_cst) ox_no rfl rfl)
        rw [z, List.map_map] at this
        exact this
    · simp
      omega
    · obtain ⟨⟨u1, p1⟩, ⟨u2, p2⟩⟩ := p
      cases u1 <;> cases u2 <;> exact e_o2 (e_o2 (e_var rfl) e_cst rfl) (e_o2 (e_o2 (e_var rfl) e_cst rfl) e_cst v_add) v_ge
  have q1 : (m.all fun q => isStretch q.2) = (rowOf m).all isStretch := by rw [List.all_map]; rfl
  have q2 : ((m.zip (m.drop 1)).all fun p => isGap (p.1.2, p.2.2)) = ((rowOf m).zip ((rowOf m).drop 1)).all isGap := by
    show _ = ((m.map _).zip ((m.map _).drop 1)).all isGap
    rw [← List.map_drop, List.zip_map, List.all_map]
    rfl
  have h1 : evE (levG M (k - 1)) (.not_ (.isi (.var 0) [.list, .tuple])) [some (Vl.d (mr t m)), none, none, none] [] = some (.d (.bool false), []) := by
    cases t <;> exact e_not (b := true) (e_isi (e_var rfl) rfl)
  show Wl _ (exB _ b_is_row [some (Vl.d (mr t m)), none, none, none] [])
  unfold b_is_row
  apply w_if (t := false || !(m.all fun q => isStretch q.2)) (s1 := [])
  · exact e_bop (b_or h1 fun _ => b_one (e_not (e_bi (es_cons c1 es_nil) b_allf)))
  · intro h
    refine w_ret (s1 := []) e_cst ⟨?_⟩
    unfold isRow
    rw [← q1]
    have : (m.all fun q => isStretch q.2) = false := by simpa using h
    rw [this]
    rfl
  · intro h
    refine w_ret (s1 := []) (e_bi (es_cons c2 es_nil) b_allf) ⟨?_⟩
    unfold isRow
    rw [← q1, ← q2]
    have : (m.all fun q => isStretch q.2) = true := by simpa using h
    rw [this]
    rfl
theorem m_plain [Has M "plain" d_plain] (hk : 1 ≤ k) {t : Bool} {m : MRow} (hr : m.length ≤ 16000000) : lev M k "plain" [.d (mr t m)] s = some (.d (.list ((rowOf m).map prI)), s) := by
  refine d_clean hk rfl rfl rfl ?_
  show Wl _ (exB _ b_plain [some (Vl.d (mr t m)), none, none] [])
  unfold b_plain
  refine w_ret (s1 := []) (v := .d (.list (m.map fun q => prI q.2))) ?_ ⟨by rw [List.map_map]; rfl⟩
  refine e_comp (l := m) (φ := fun q => Vl.d (pr q.1 q.2)) (g := []) (fun q => prI q.2) (i_mr rfl) okGb_nil hr fun p hp => ⟨[some (Vl.d (mr t m)), some (.d (.int p.2.1)), some (.d (.int p.2.2))], by obtain ⟨u, p⟩ := p; cases u <;> rfl, c_no, e_tup (es_cons (e_var rfl) (es_cons (e_var rfl) es_nil)) rfl⟩
theorem m_need_row [Has M "is_whole" d_is_whole] [Has M "is_stretch" d_is_stretch] [Has M "is_row" d_is_row] [Has M "plain" d_plain] [Has M "need_row" d_need_row] (hk : 4 ≤ k) {t : Bool} {m : MRow} (hr : m.length ≤ 16000000) (ok : isRow (rowOf m) = true) : lev M k "need_row" [.d (mr t m)] s = some (.d (.list ((rowOf m).map prI)), s) := by
  refine d_clean (by omega) rfl rfl rfl ?_
  show Wl _ (exB _ b_need_row [some (Vl.d (mr t m))] [])
  unfold b_need_row
  refine w_if (t := !true) (s1 := []) (e_not (e_call (es_cons (e_var rfl) es_nil) (by rw [m_is_row (by omega) hr, ok]))) (fun h => by cases h) fun _ => ?_
  exact w_ret (s1 := []) (e_call (es_cons (e_var rfl) es_nil) (m_plain (by omega) hr)) ⟨rfl⟩
/-- a row as it should be -/
structure Good (r : Row) : Prop where
  o : r.Pairwise fun p q => p.2 + 2 ≤ q.1
  s : ∀ p ∈ r, 1 ≤ p.1 ∧ p.1 ≤ p.2
theorem isRow_of {r : Row} (h : Good r) : isRow r = true := by
  unfold isRow
  rw [Bool.and_eq_true]
  constructor
  · rw [List.all_eq_true]
    intro p hp
    have := h.s p hp
    unfold isStretch
    simp [this.1, this.2]
  · rw [List.all_eq_true]
    rintro ⟨p, q⟩ hpq
    obtain ⟨i, hi⟩ := List.mem_iff_getElem?.mp hpq
    obtain ⟨h1, h2⟩ := List.getElem?_zip_eq_some.mp hi
    rw [List.getElem?_drop] at h2
    obtain ⟨l1, e1⟩ := List.getElem?_eq_some_iff.mp h1
    obtain ⟨l2, e2⟩ := List.getElem?_eq_some_iff.mp h2
    have := List.pairwise_iff_getElem.mp h.o i (1 + i) l1 l2 (by omega)
    rw [e1, e2] at this
    unfold isGap
    simpa using this
theorem Good.pre {a b : Row} (h : Good (a ++ b)) : Good a := ⟨(List.pairwise_append.mp h.o).1, fun p hp => h.s p (List.mem_append_left _ hp)⟩
theorem Good.suf {a b : Row} (h : Good (a ++ b)) : Good b := ⟨(List.pairwise_append.mp h.o).2.1, fun p hp => h.s p (List.mem_append_right _ hp)⟩
theorem Good.nil : Good [] := ⟨List.Pairwise.nil, fun _ h => by cases h⟩
/-- few figures -/
def Lim (N : Nat) (r : Row) : Prop := ∀ p ∈ r, p.2 < 2 ^ N
/-- handed in: t, m stand for the row r -/
structure Hnd (r : Row) (m : MRow) : Prop where
  e : rowOf m = r
/-! how many heads -/
def wid (p : Int × Int) : Int := p.2 - p.1 + 1
def cnt (r : Row) : Int := (r.map wid).sum
theorem m_heads [Has M "is_whole" d_is_whole] [Has M "is_stretch" d_is_stretch] [Has M "is_row" d_is_row] [Has M "plain" d_plain] [Has M "need_row" d_need_row] [Has M "heads" d_heads] (hk : 5 ≤ k) {t : Bool} {m : MRow} (hr : m.length ≤ 16000000) (g : Good (rowOf m)) :
    lev M k "heads" [.d (mr t m)] s = some (.d (.int (cnt (rowOf m))), s) := by
  refine d_clean (by omega) rfl rfl rfl ?_
  show Wl _ (exB _ b_heads [some (Vl.d (mr t m)), none, none] [])
  unfold b_heads
  refine w_ret (s1 := []) (e_bi (es_cons (e_comp (l := rowOf m) (φ := fun p => Vl.d (prI p)) (g := []) (fun p => .int (wid p)) (i_row (e_call (es_cons (e_var rfl) es_nil) (m_need_row (by omega) hr (isRow_of g)))) okGb_nil (by simpa using hr) fun p hp => ⟨_, rfl, c_no, e_o2 (e_o2 (e_var rfl) (e_var rfl) v_sub) e_cst v_add⟩) es_nil) b_sumf) ⟨rfl⟩
def cntTo (r : Row) (x : Int) : Int := ((r.filter fun p => decide (p.1 ≤ x)).map fun p => min p.2 x - p.1 + 1).sum
def inS (x : Int) (p : Int × Int) : Bool := decide (p.1 ≤ x) && decide (x ≤ p.2)
def hasC (r : Row) (x : Int) : Bool := r.any (inS x)
theorem e_in {G : Cn} {nv : Nv} {i j l : Nat} {a b c : Int} (h1 : nv[i]? = some (some (.d (.int a)))) (h2 : nv[j]? = some (some (.d (.int b)))) (h3 : nv[l]? = some (some (.d (.int c)))) : evE G (.chain .le .le (.var i) (.var j) (.var l)) nv s = some (.d (.bool (decide (a ≤ b) && decide (b ≤ c))), s) :=
  e_chain (e_var h1) (e_var h2) v_le (fun _ => e_var h3) fun _ => v_le
def nthF : Row → Int → Option Int
  | [], _ => none
  | p :: r, n => if n ≤ wid p then some (p.1 + n - 1) else nthF r (n - wid p)
theorem cnt_cons (p : Int × Int) (r : Row) : cnt (p :: r) = wid p + cnt r := rfl
theorem cnt_app (a b : Row) : cnt (a ++ b) = cnt a + cnt b := by unfold cnt; rw [List.map_append, List.sum_append]
theorem cnt_nn {r : Row} (g : Good r) : 0 ≤ cnt r := by
  induction r with
  | nil => exact Int.le_refl _
  | cons p r ih =>
    rw [cnt_cons]
    have := ih (Good.suf (a := [p]) g)
    have := g.s p (by simp)
    unfold wid
    omega
theorem nthF_some : ∀ {r : Row} {n : Int}, 1 ≤ n → n ≤ cnt r → ∃ v, nthF r n = some v
  | [], n, h1, h2 => by
    have : cnt [] = 0 := rfl
    omega
  | p :: r, n, h1, h2 => by
    unfold nthF
    by_cases h : n ≤ wid p
    · rw [if_pos h]
      exact ⟨_, rfl⟩
    · rw [if_neg h]
      rw [cnt_cons] at h2
      exact nthF_some (by omega) (by omega)
def sums (r : Row) : Int := (r.map fun p => (p.1 + p.2) * (p.2 - p.1 + 1) / 2).sum
theorem wid_bits {N : Nat} {r : Row} (g : Good r) (h : Lim N r) : ∀ p ∈ r, bits (p.1 + p.2) ≤ N + 1 ∧ bits (p.2 - p.1 + 1) ≤ N + 1 := fun p hp => by
  have h1 := g.s p hp
  have h2 := h p hp
  have e : (2 : Int) ^ (N + 1) = 2 ^ N * 2 := Int.pow_succ ..
  exact ⟨bits_of (by omega) (by omega), bits_of (by omega) (by omega)⟩
def lastP (r : Row) : Int := mxD (r.map fun p => p.2) 0
theorem last_max {r : Row} (g : Good r) : maxI (0 :: r.map fun p => p.2) = lastP r := by
  cases r with
  | nil => rfl
  | cons p r =>
    have hp := g.s p (by simp)
    show max 0 (maxI ((p :: r).map fun p => p.2)) = maxI ((p :: r).map fun p => p.2)
    have : p.2 ≤ maxI ((p :: r).map fun p => p.2) := by
      rw [List.map_cons]
      cases r.map fun p => p.2 with
      | nil => exact Int.le_refl _
      | cons a b =>
        show p.2 ≤ max p.2 (maxI (a :: b))
        omega
    omega
end
end MP.P

/-! W_par: plain laws: rows by their edges, by the places that show heads. -/
namespace MP.P
open PySem MP
def edg (r : Row) : List Int := r.flatMap fun p => [p.1, p.2 + 1]
theorem edg_cons (p : Int × Int) (r : Row) : edg (p :: r) = p.1 :: (p.2 + 1) :: edg r := by simp [edg]
theorem edg_app (a b : Row) : edg (a ++ b) = edg a ++ edg b := by simp [edg]
theorem edg_len : ∀ r : Row, (edg r).length = 2 * r.length
  | [] => rfl
  | p :: r => by rw [edg_cons, List.length_cons, List.length_cons, edg_len r, List.length_cons]; omega
def rowE : List Int → Row
  | a :: b :: r => (a, b - 1) :: rowE r
  | _ => []
theorem rowE_edg : ∀ r : Row, rowE (edg r) = r
  | [] => rfl
  | p :: r => by
    rw [edg_cons]
    show (p.1, p.2 + 1 - 1) :: rowE (edg r) = _
    rw [rowE_edg r]
    have : p.2 + 1 - 1 = p.2 := by omega
    rw [this]
theorem rowE_len : ∀ E : List Int, 2 * (rowE E).length ≤ E.length
  | [] => Nat.le_refl _
  | [_] => by show 0 ≤ _; omega
  | a :: b :: r => by
    have := rowE_len r
    show 2 * ((rowE r).length + 1) ≤ r.length + 1 + 1
    omega
theorem rowE_mem : ∀ {E : List Int} {p : Int × Int}, p ∈ rowE E → p.1 ∈ E ∧ p.2 + 1 ∈ E
  | [], p, h => by cases h
  | [_], p, h => by cases h
  | a :: b :: r, p, h => by
    rcases List.mem_cons.mp (show p ∈ (a, b - 1) :: rowE r from h) with q | q
    · subst q
      refine ⟨by simp, ?_⟩
      show b - 1 + 1 ∈ _
      have : b - 1 + 1 = b := by omega
      rw [this]
      simp
    · obtain ⟨h1, h2⟩ := rowE_mem q
      exact ⟨List.mem_cons_of_mem _ (List.mem_cons_of_mem _ h1), List.mem_cons_of_mem _ (List.mem_cons_of_mem _ h2)⟩
theorem good_rowE : ∀ {E : List Int}, E.Pairwise (· < ·) → (∀ e ∈ E, 1 ≤ e) → Good (rowE E)
  | [], _, _ => Good.nil
  | [_], _, _ => Good.nil
  | a :: b :: r, h, h1 => by
    rw [List.pairwise_cons] at h
    obtain ⟨ha, h⟩ := h
    rw [List.pairwise_cons] at h
    obtain ⟨hb, h⟩ := h
    obtain ⟨go, gs⟩ := good_rowE h fun e he => h1 e (List.mem_cons_of_mem _ (List.mem_cons_of_mem _ he))
    have hab := ha b (by simp)
    have ha1 := h1 a (by simp)
    refine ⟨?_, fun p hp => ?_⟩
    · show ((a, b - 1) :: rowE r).Pairwise _
      rw [List.pairwise_cons]
      refine ⟨fun q hq => ?_, go⟩
      have := hb _ (rowE_mem hq).1
      show b - 1 + 2 ≤ q.1
      omega
    · rcases List.mem_cons.mp (show p ∈ (a, b - 1) :: rowE r from hp) with q | q
      · subst q
        exact ⟨ha1, by show a ≤ b - 1; omega⟩
      · exact gs p q
theorem edg_asc : ∀ {r : Row}, Good r → (edg r).Pairwise (· < ·) ∧ ∀ e ∈ edg r, 1 ≤ e
  | [], _ => ⟨List.Pairwise.nil, fun _ h => by cases h⟩
  | p :: r, g => by
    have gr : Good r := Good.suf (a := [p]) g
    obtain ⟨h1, h2⟩ := edg_asc gr
    have hp := g.s p (by simp)
    have ho := (List.pairwise_cons.mp g.o).1
    have hlow : ∀ e ∈ edg r, p.2 + 2 ≤ e := fun e he => by
      unfold edg at he
      obtain ⟨q, hq, he⟩ := List.mem_flatMap.mp he
      have h3 := ho q hq
      have h4 := gr.s q hq
      rcases List.mem_cons.mp he with z | z
      · omega
      · have : e = q.2 + 1 := by simpa using z
        omega
    rw [edg_cons]
    refine ⟨?_, fun e he => ?_⟩
    · rw [List.pairwise_cons, List.pairwise_cons]
      refine ⟨fun e he => ?_, fun e he => ?_, h1⟩
      · rcases List.mem_cons.mp he with z | z
        · omega
        · have := hlow e z
          omega
      · have := hlow e he
        omega
    · rcases List.mem_cons.mp he with z | z
      · omega
      · rcases List.mem_cons.mp z with z | z
        · omega
        · exact h2 e z
/-- how many edges lie up to x -/
def cle (E : List Int) (x : Int) : Nat := E.countP fun e => decide (e ≤ x)
theorem cle_zero {E : List Int} {x : Int} (h : ∀ e ∈ E, x < e) : cle E x = 0 := by
  unfold cle
  rw [List.countP_eq_zero]
  intro e he
  have := h e he
  simp
  omega
theorem cle_cons (a : Int) (E : List Int) (x : Int) : cle (a :: E) x = cle E x + if a ≤ x then 1 else 0 := by
  unfold cle
  rw [List.countP_cons]
  simp
theorem has_rowE (x : Int) : ∀ {E : List Int}, E.Pairwise (· < ·) → E.length % 2 = 0 → hasC (rowE E) x = decide (cle E x % 2 = 1)
  | [], _, _ => rfl
  | [_], _, h => by cases h
  | a :: b :: r, h, hl => by
    rw [List.pairwise_cons] at h
    obtain ⟨ha, h⟩ := h
    rw [List.pairwise_cons] at h
    obtain ⟨hb, h⟩ := h
    have ih := has_rowE x h (by simp at hl; omega)
    have hab := ha b (by simp)
    have e1 : hasC (rowE (a :: b :: r)) x = (inS x (a, b - 1) || hasC (rowE r) x) := rfl
    rw [e1, cle_cons, cle_cons, ih]
    unfold inS
    by_cases h1 : a ≤ x
    · by_cases h2 : b ≤ x
      · rw [if_pos h1, if_pos h2]
        have e2 : decide (x ≤ b - 1) = false := decide_eq_false (by omega)
        simp only [e2, Bool.and_false, Bool.false_or]
        congr 1
        apply propext
        omega
      · rw [if_pos h1, if_neg h2]
        have h0 := cle_zero (E := r) (x := x) fun e he => by
          have := hb e he
          omega
        rw [h0]
        simp [h1]
        omega
    · have h0 := cle_zero (E := r) (x := x) fun e he => by
        have := hb e he
        omega
      rw [if_neg h1, if_neg (by omega), h0]
      simp [h1]
theorem has_edg {r : Row} (g : Good r) (x : Int) : hasC r x = decide (cle (edg r) x % 2 = 1) := by
  have := has_rowE x (edg_asc g).1 (by rw [edg_len]; omega)
  rw [rowE_edg] at this
  exact this
/-- what stands in one of two lists alone, rising -/
def unl (A B : List Int) : List Int := sortI (A.filter (fun e => !decide (e ∈ B)) ++ B.filter fun e => !decide (e ∈ A))
theorem sortI_perm2 (xs : List Int) : (sortI xs).Perm xs := List.mergeSort_perm _ _
theorem sortI_le (xs : List Int) : (sortI xs).Pairwise (· ≤ ·) := by
  unfold sortI
  have := List.pairwise_mergeSort (le := fun a b : Int => decide (a ≤ b)) (fun a b c h1 h2 => by simp at *; omega) (fun a b => by simp; omega) xs
  exact this.imp (fun h => by simpa using h)
theorem nodup_of_lt {xs : List Int} (h : xs.Pairwise (· < ·)) : xs.Nodup := h.imp fun h => by omega
theorem sortI_lt {xs : List Int} (h : xs.Nodup) : (sortI xs).Pairwise (· < ·) := by
  have h1 := sortI_le xs
  have h2 : (sortI xs).Nodup := (sortI_perm2 xs).nodup_iff.mpr h
  exact h1.imp₂ (fun a b h3 h4 => by omega) h2
theorem unl_nodup {A B : List Int} (ha : A.Nodup) (hb : B.Nodup) : (A.filter (fun e => !decide (e ∈ B)) ++ B.filter fun e => !decide (e ∈ A)).Nodup := by
  rw [List.nodup_append]
  refine ⟨ha.sublist List.filter_sublist, hb.sublist List.filter_sublist, fun a h1 b h2 e => ?_⟩
  subst e
  rw [List.mem_filter] at h1 h2
  have := h2.1
  simp [this] at h1
theorem unl_lt {A B : List Int} (ha : A.Pairwise (· < ·)) (hb : B.Pairwise (· < ·)) : (unl A B).Pairwise (· < ·) := sortI_lt (unl_nodup (nodup_of_lt ha) (nodup_of_lt hb))
theorem unl_mem {A B : List Int} {e : Int} (h : e ∈ unl A B) : e ∈ A ∨ e ∈ B := by
  have := (sortI_perm2 _).mem_iff.mp h
  rw [List.mem_append, List.mem_filter, List.mem_filter] at this
  rcases this with q | q
  · exact .inl q.1
  · exact .inr q.1
theorem unl_count {A B : List Int} (ha : A.Nodup) (hb : B.Nodup) (q : Int → Bool) : (unl A B).countP q + 2 * (A.filter fun e => decide (e ∈ B)).countP q = A.countP q + B.countP q := by
  have h1 : (unl A B).countP q = (A.filter fun e => !decide (e ∈ B)).countP q + (B.filter fun e => !decide (e ∈ A)).countP q := by
    rw [← List.countP_append]
    exact (sortI_perm2 _).countP_eq q
  have h2 : A.countP q = (A.filter fun e => decide (e ∈ B)).countP q + (A.filter fun e => !decide (e ∈ B)).countP q := List.countP_eq_countP_filter_add ..
  have h3 : B.countP q = (B.filter fun e => decide (e ∈ A)).countP q + (B.filter fun e => !decide (e ∈ A)).countP q := List.countP_eq_countP_filter_add ..
  have h4 : (A.filter fun e => decide (e ∈ B)).countP q = (B.filter fun e => decide (e ∈ A)).countP q := by
    refine List.Perm.countP_eq q ?_
    rw [List.perm_ext_iff_of_nodup (ha.sublist List.filter_sublist) (hb.sublist List.filter_sublist)]
    intro e
    rw [List.mem_filter, List.mem_filter]
    simp
    exact And.comm
  omega
theorem unl_len {A B : List Int} (ha : A.Nodup) (hb : B.Nodup) (h1 : A.length % 2 = 0) (h2 : B.length % 2 = 0) : (unl A B).length % 2 = 0 := by
  have := unl_count ha hb fun _ => true
  have e : ∀ l : List Int, l.countP (fun _ => true) = l.length := fun l => by simp
  simp only [e] at this
  omega
theorem unl_len_le {A B : List Int} (ha : A.Nodup) (hb : B.Nodup) : (unl A B).length ≤ A.length + B.length := by
  have := unl_count ha hb fun _ => true
  have e : ∀ l : List Int, l.countP (fun _ => true) = l.length := fun l => by simp
  simp only [e] at this
  omega
/-- two rows that show heads at the same places are one -/
theorem has_mem {r : Row} {x : Int} : hasC r x = true ↔ ∃ p ∈ r, p.1 ≤ x ∧ x ≤ p.2 := by
  unfold hasC
  rw [List.any_eq_true]
  constructor
  · rintro ⟨p, h1, h2⟩
    unfold inS at h2
    simp at h2
    exact ⟨p, h1, h2⟩
  · rintro ⟨p, h1, h2⟩
    exact ⟨p, h1, by unfold inS; simp [h2]⟩
theorem good_ext : ∀ {a b : Row}, Good a → Good b → (∀ x, hasC a x = hasC b x) → a = b
  | [], [], _, _, _ => rfl
  | [], q :: b, ga, gb, h => by
    have hq := gb.s q (by simp)
    have : hasC (q :: b) q.1 = true := has_mem.mpr ⟨q, by simp, by omega, hq.2⟩
    rw [← h] at this
    cases this
  | p :: a, [], ga, gb, h => by
    have hp := ga.s p (by simp)
    have : hasC (p :: a) p.1 = true := has_mem.mpr ⟨p, by simp, by omega, hp.2⟩
    rw [h] at this
    cases this
  | p :: a, q :: b, ga, gb, h => by
    have hp := ga.s p (by simp)
    have hq := gb.s q (by simp)
    have oa := (List.pairwise_cons.mp ga.o).1
    have ob := (List.pairwise_cons.mp gb.o).1
    have low : ∀ {p : Int × Int} {a : Row} {x : Int}, Good (p :: a) → hasC (p :: a) x = true → p.1 ≤ x ∧ (x ≤ p.2 ∨ p.2 + 2 ≤ x) := fun {p a x} g hx => by
      obtain ⟨z, hz, h1, h2⟩ := has_mem.mp hx
      have hp := g.s p (by simp)
      rcases List.mem_cons.mp hz with e | e
      · subst e
        exact ⟨h1, .inl h2⟩
      · have := (List.pairwise_cons.mp g.o).1 z e
        exact ⟨by omega, .inr (by omega)⟩
    have e1 : p.1 = q.1 := by
      have h1 := (low gb (by rw [← h]; exact has_mem.mpr ⟨p, by simp, Int.le_refl _, hp.2⟩)).1
      have h2 := (low ga (by rw [h]; exact has_mem.mpr ⟨q, by simp, Int.le_refl _, hq.2⟩)).1
      omega
    have e2 : p.2 = q.2 := by
      rcases Int.lt_trichotomy p.2 q.2 with z | z | z
      · exfalso
        have := (low ga (x := p.2 + 1) (by rw [h]; exact has_mem.mpr ⟨q, by simp, by omega, by omega⟩)).2
        omega
      · exact z
      · exfalso
        have := (low gb (x := q.2 + 1) (by rw [← h]; exact has_mem.mpr ⟨p, by simp, by omega, by omega⟩)).2
        omega
    have e : p = q := Prod.ext e1 e2
    subst e
    congr 1
    refine good_ext (Good.suf (a := [p]) ga) (Good.suf (a := [p]) gb) fun x => ?_
    have hx := h x
    have d : ∀ {p : Int × Int} {a : Row}, Good (p :: a) → hasC a x = (hasC (p :: a) x && !inS x p) := fun {p a} g => by
      have e3 : hasC (p :: a) x = (inS x p || hasC a x) := rfl
      rw [e3]
      cases hi : inS x p with
      | false => simp
      | true =>
        simp
        cases ha : hasC a x with
        | false => rfl
        | true =>
          exfalso
          obtain ⟨z, hz, h1, h2⟩ := has_mem.mp ha
          have := (List.pairwise_cons.mp g.o).1 z hz
          unfold inS at hi
          simp at hi
          omega
    rw [d ga, d gb, hx]
/-- the row with a coin turned over -/
def over (r : Row) (p : Int) : Row := rowE (unl (edg r) [p, p + 1])
theorem pair_asc (p : Int) : [p, p + 1].Pairwise (· < ·) := by
  rw [List.pairwise_cons]
  exact ⟨fun e he => by have : e = p + 1 := by simpa using he
                        omega, List.pairwise_singleton _ _⟩
theorem over_good {r : Row} (g : Good r) {p : Int} (hp : 1 ≤ p) : Good (over r p) := by
  obtain ⟨h1, h2⟩ := edg_asc g
  refine good_rowE (unl_lt h1 (pair_asc p)) fun e he => ?_
  rcases unl_mem he with q | q
  · exact h2 e q
  · simp at q
    omega
theorem over_has {r : Row} (g : Good r) (p x : Int) : hasC (over r p) x = (hasC r x ^^ decide (x = p)) := by
  obtain ⟨h1, h2⟩ := edg_asc g
  have n1 := nodup_of_lt h1
  have n2 := nodup_of_lt (pair_asc p)
  have hc := unl_count n1 n2 fun e => decide (e ≤ x)
  unfold over
  rw [has_rowE x (unl_lt h1 (pair_asc p)) (unl_len n1 n2 (by rw [edg_len]; omega) (by simp)), has_edg g]
  have e2 : [p, p + 1].countP (fun e => decide (e ≤ x)) = (if p ≤ x then 1 else 0) + if p + 1 ≤ x then 1 else 0 := by
    rw [List.countP_cons, List.countP_cons, List.countP_nil]
    simp
    omega
  rw [e2] at hc
  unfold cle
  by_cases h3 : p ≤ x
  · by_cases h4 : p + 1 ≤ x
    · rw [if_pos h3, if_pos h4] at hc
      rw [decide_eq_false (show ¬ x = p by omega), Bool.xor_false, Bool.eq_iff_iff, decide_eq_true_eq, decide_eq_true_eq]
      omega
    · rw [if_pos h3, if_neg h4] at hc
      rw [decide_eq_true (show x = p by omega), Bool.xor_true, Bool.eq_iff_iff, Bool.not_eq_true', decide_eq_true_eq, decide_eq_false_iff_not]
      omega
  · rw [if_neg h3, if_neg (by omega)] at hc
    rw [decide_eq_false (show ¬ x = p by omega), Bool.xor_false, Bool.eq_iff_iff, decide_eq_true_eq, decide_eq_true_eq]
    omega
/-- the row turned about within n places -/
def abt (r : Row) (n : Int) : Row := rowE (sortI ((unl (edg r) [1, n + 1]).map fun e => n + 2 - e))
def Within (r : Row) (n : Int) : Prop := ∀ p ∈ r, p.2 ≤ n
theorem edg_le {r : Row} (g : Good r) {n : Int} (h : Within r n) : ∀ e ∈ edg r, e ≤ n + 1 := fun e he => by
  unfold edg at he
  obtain ⟨q, hq, he⟩ := List.mem_flatMap.mp he
  have h3 := h q hq
  have h4 := g.s q hq
  rcases List.mem_cons.mp he with z | z
  · omega
  · have : e = q.2 + 1 := by simpa using z
    omega
theorem two_asc {n : Int} (hn : 1 ≤ n) : [1, n + 1].Pairwise (· < ·) := by
  rw [List.pairwise_cons]
  exact ⟨fun e he => by have : e = n + 1 := by simpa using he
                        omega, List.pairwise_singleton _ _⟩
theorem abt_asc {r : Row} (g : Good r) {n : Int} (hn : 1 ≤ n) : (sortI ((unl (edg r) [1, n + 1]).map fun e => n + 2 - e)).Pairwise (· < ·) := by
  refine sortI_lt ?_
  have := nodup_of_lt (unl_lt (edg_asc g).1 (two_asc hn))
  exact List.pairwise_map.mpr (this.imp fun h => by omega)
theorem abt_good {r : Row} (g : Good r) {n : Int} (hn : 1 ≤ n) (h : Within r n) : Good (abt r n) := by
  refine good_rowE (abt_asc g hn) fun e he => ?_
  have he := (sortI_perm2 _).mem_iff.mp he
  obtain ⟨e', he', rfl⟩ := List.mem_map.mp he
  rcases unl_mem he' with q | q
  · have := edg_le g h e' q
    omega
  · simp at q
    omega
theorem has_in {r : Row} (g : Good r) {n : Int} (h : Within r n) {x : Int} (hx : hasC r x = true) : 1 ≤ x ∧ x ≤ n := by
  obtain ⟨p, hp, h1, h2⟩ := has_mem.mp hx
  have := g.s p hp
  have := h p hp
  omega
theorem abt_has {r : Row} (g : Good r) {n : Int} (hn : 1 ≤ n) (h : Within r n) (x : Int) : hasC (abt r n) x = (decide (1 ≤ x ∧ x ≤ n) && !hasC r (n + 1 - x)) := by
  obtain ⟨h1, h2⟩ := edg_asc g
  have n1 := nodup_of_lt h1
  have n2 := nodup_of_lt (two_asc hn)
  have hc := unl_count n1 n2 fun e => decide (e ≤ n + 1 - x)
  have hl := unl_len n1 n2 (by rw [edg_len]; omega) (by simp)
  unfold abt
  rw [has_rowE x (abt_asc g hn) (by rw [(sortI_perm2 _).length_eq, List.length_map]; exact hl), has_edg g]
  have e1 : cle (sortI ((unl (edg r) [1, n + 1]).map fun e => n + 2 - e)) x + (unl (edg r) [1, n + 1]).countP (fun e => decide (e ≤ n + 1 - x)) = (unl (edg r) [1, n + 1]).length := by
    unfold cle
    rw [(sortI_perm2 _).countP_eq, List.countP_map, List.length_eq_countP_add_countP (fun e => decide (e ≤ n + 1 - x)), Nat.add_comm]
    congr 1
    refine List.countP_congr fun e _ => ?_
    simp
    omega
  have e2 : [1, n + 1].countP (fun e => decide (e ≤ n + 1 - x)) = (if 1 ≤ n + 1 - x then 1 else 0) + if n + 1 ≤ n + 1 - x then 1 else 0 := by
    rw [List.countP_cons, List.countP_cons, List.countP_nil]
    simp
    omega
  rw [e2] at hc
  have hz : 1 ≤ n + 1 - x ∧ n + 1 - x ≤ n ∨ cle (edg r) (n + 1 - x) % 2 = 0 := by
    by_cases hh : hasC r (n + 1 - x) = true
    · exact .inl (has_in g h hh)
    · rw [has_edg g] at hh
      simp at hh
      exact .inr (by omega)
  unfold cle at e1 hz ⊢
  rw [Bool.eq_iff_iff]
  simp only [Bool.and_eq_true, Bool.not_eq_true', decide_eq_true_eq, decide_eq_false_iff_not]
  by_cases h3 : 1 ≤ n + 1 - x
  · by_cases h4 : n + 1 ≤ n + 1 - x
    · rw [if_pos h3, if_pos h4] at hc
      constructor
      · intro q
        exfalso
        rcases hz with z | z <;> omega
      · rintro ⟨⟨q1, q2⟩, q3⟩
        omega
    · rw [if_pos h3, if_neg h4] at hc
      constructor
      · intro q
        refine ⟨⟨by omega, by omega⟩, by omega⟩
      · rintro ⟨⟨q1, q2⟩, q3⟩
        omega
  · rw [if_neg h3, if_neg (by omega)] at hc
    constructor
    · intro q
      exfalso
      rcases hz with z | z <;> omega
    · rintro ⟨⟨q1, q2⟩, q3⟩
      omega
end MP.P


/-! L_bankA: what _law_bank, _law_flip, _law_strip, _law_handed, _law_same, _law_spot of the laws k01 .. k14 tell. -/
namespace MP.P
open PySem MP
section
variable {M : Md} {k : Nat} {s : Sto}
abbrev Bag := Int × Int × Int
def bagL (b : Bag) : So := .lst [.d (.int b.1), .d (.int b.2.1), .d (.int b.2.2)]
theorem isDt_bag (b : Bag) : isDt (bagL b) = true := rfl
structure BOk (c : Int) (b : Bag) : Prop where
  h1 : 0 ≤ b.2.1
  h2 : b.2.1 < 10 ^ 44
  h3 : 0 ≤ b.2.2
  h4 : b.2.2 ≤ c
theorem BOk.mono {c d : Int} {b : Bag} (h : BOk c b) (hd : c ≤ d) : BOk d b := ⟨h.h1, h.h2, h.h3, Int.le_trans h.h4 hd⟩
/-- a bag at n in the store s -/
structure At_ (M : Md) (k : Nat) (s : Sto) (n : Nat) : Prop where
  lt : n < s.length
  dt : Dt s
theorem range_mid {N : Nat} {pre post : List Nat} {x : Nat} (h : List.range N = pre ++ x :: post) : x = pre.length ∧ pre.length < N := by
  have h1 : (List.range N)[pre.length]? = some x := by rw [h]; simp
  have hl : pre.length < N := by
    have := congrArg List.length h
    simp at this
    omega
  rw [List.getElem?_range hl] at h1
  exact ⟨(Option.some.inj h1).symm, hl⟩
/-- one of three, one of them -/
theorem v_pick3 {a b c : Int} {i : Int} (h0 : 0 ≤ i) (h1 : i < 3) : ∃ o, (o = a ∨ o = b ∨ o = c) ∧ ∀ s : Sto, o2v .idx s (.d (.list [.int a, .int b, .int c])) (.d (.int i)) = some (.d (.int o)) := by
  rcases (by omega : i = 0 ∨ i = 1 ∨ i = 2) with q | q | q <;> subst q
  · exact ⟨a, .inl rfl, fun _ => rfl⟩
  · exact ⟨b, .inr (.inl rfl), fun _ => rfl⟩
  · exact ⟨c, .inr (.inr rfl), fun _ => rfl⟩
theorem v_pick4 {a b c d : Int} {i : Int} (h0 : 0 ≤ i) (h1 : i < 4) : ∃ o, (o = a ∨ o = b ∨ o = c ∨ o = d) ∧ ∀ s : Sto, o2v .idx s (.d (.list [.int a, .int b, .int c, .int d])) (.d (.int i)) = some (.d (.int o)) := by
  rcases (by omega : i = 0 ∨ i = 1 ∨ i = 2 ∨ i = 3) with q | q | q | q <;> subst q
  · exact ⟨a, .inl rfl, fun _ => rfl⟩
  · exact ⟨b, .inr (.inl rfl), fun _ => rfl⟩
  · exact ⟨c, .inr (.inr (.inl rfl)), fun _ => rfl⟩
  · exact ⟨d, .inr (.inr (.inr rfl)), fun _ => rfl⟩
theorem v_pick5 {a b c d e : Int} {i : Int} (h0 : 0 ≤ i) (h1 : i < 5) : ∃ o, (o = a ∨ o = b ∨ o = c ∨ o = d ∨ o = e) ∧ ∀ s : Sto, o2v .idx s (.d (.list [.int a, .int b, .int c, .int d, .int e])) (.d (.int i)) = some (.d (.int o)) := by
  rcases (by omega : i = 0 ∨ i = 1 ∨ i = 2 ∨ i = 3 ∨ i = 4) with q | q | q | q | q <;> subst q
  · exact ⟨a, .inl rfl, fun _ => rfl⟩
  · exact ⟨b, .inr (.inl rfl), fun _ => rfl⟩
  · exact ⟨c, .inr (.inr (.inl rfl)), fun _ => rfl⟩
  · exact ⟨d, .inr (.inr (.inr (.inl rfl))), fun _ => rfl⟩
  · exact ⟨e, .inr (.inr (.inr (.inr rfl))), fun _ => rfl⟩
theorem v_pick6 {a b c d e f : Int} {i : Int} (h0 : 0 ≤ i) (h1 : i < 6) : ∃ o, (o = a ∨ o = b ∨ o = c ∨ o = d ∨ o = e ∨ o = f) ∧ ∀ s : Sto, o2v .idx s (.d (.list [.int a, .int b, .int c, .int d, .int e, .int f])) (.d (.int i)) = some (.d (.int o)) := by
  rcases (by omega : i = 0 ∨ i = 1 ∨ i = 2 ∨ i = 3 ∨ i = 4 ∨ i = 5) with q | q | q | q | q | q <;> subst q
  · exact ⟨a, .inl rfl, fun _ => rfl⟩
  · exact ⟨b, .inr (.inl rfl), fun _ => rfl⟩
  · exact ⟨c, .inr (.inr (.inl rfl)), fun _ => rfl⟩
  · exact ⟨d, .inr (.inr (.inr (.inl rfl))), fun _ => rfl⟩
  · exact ⟨e, .inr (.inr (.inr (.inr (.inl rfl)))), fun _ => rfl⟩
  · exact ⟨f, .inr (.inr (.inr (.inr (.inr rfl)))), fun _ => rfl⟩
theorem isDt_row (r : Row) : isDt (.lst (r.map fun p => Vl.d (prI p))) = true := by
  show (allD _).isSome = true
  rw [allD_mapf] <;> rfl
/-- a row told by draws: the last place is at -/
structure Far (at' : Int) (r : Row) : Prop where
  g : Good r
  h0 : 0 ≤ at'
  h : ∀ p ∈ r, p.2 ≤ at'
theorem Far.app {a f l : Int} {r : Row} (h : Far a r) (h1 : a + 2 ≤ f ∨ (r = [] ∧ 1 ≤ f)) (h2 : f ≤ l) : Far l (r ++ [(f, l)]) := by
  have ha := h.h0
  refine ⟨⟨?_, fun p hp => ?_⟩, by rcases h1 with q | ⟨_, q⟩ <;> omega, fun p hp => ?_⟩
  · rw [List.pairwise_append]
    refine ⟨h.g.o, List.pairwise_singleton _ _, fun p hp q hq => ?_⟩
    have : q = (f, l) := by simpa using hq
    subst this
    have := h.h p hp
    show p.2 + 2 ≤ f
    rcases h1 with q | ⟨q, _⟩
    · omega
    · rw [q] at hp
      cases hp
  · rcases List.mem_append.mp hp with hp | hp
    · exact h.g.s p hp
    · have : p = (f, l) := by simpa using hp
      subst this
      refine ⟨?_, h2⟩
      show 1 ≤ f
      rcases h1 with q | ⟨_, q⟩ <;> omega
  · rcases List.mem_append.mp hp with hp | hp
    · have := h.h p hp
      rcases h1 with q | ⟨q, _⟩
      · omega
      · rw [q] at hp
        cases hp
    · have : p = (f, l) := by simpa using hp
      subst this
      exact Int.le_refl _
/-! handed in -/
theorem flt_row {r : Row} : okD (.list (r.map prI)) = true := (Flt.list (n := 1) fun x hx => by
  obtain ⟨p, _, rfl⟩ := List.mem_map.mp hx
  exact Flt.pair _ _).ok (by decide)
/-- it may be shown -/
theorem show_mr {t : Bool} {m : MRow} {j : Nat} (hj : 0 < j) (hj2 : j ≤ 400) (hm : m.length ≤ 1000) (h : ∀ p ∈ rowOf m, p.1.natAbs < 10 ^ j ∧ p.2.natAbs < 10 ^ j) : showOk (mr t m) = true := by
  have hp : ∀ x ∈ m.map (fun q => pr q.1 q.2), Shw 1 (2 * (j + 3) + 3) x := fun x hx => by
    obtain ⟨⟨u, p⟩, hq, rfl⟩ := List.mem_map.mp hx
    have hpp := h p (List.mem_map.mpr ⟨(u, p), hq, rfl⟩)
    cases u
    · have q : Shw (0 + 1) ([PyData.int p.1, PyData.int p.2].length * (j + 1 + 2) + 2) (.list [.int p.1, .int p.2]) := Shw.list (L := j + 1) fun x hx => by
        rcases List.mem_cons.mp hx with q | q
        · rw [q]; exact .int hj (by omega) hpp.1
        · have : x = .int p.2 := by simpa using q
          rw [this]; exact .int hj (by omega) hpp.2
      exact q.mono (Nat.le_refl _) (by simp)
    · exact Shw.pair hj (by omega) hpp.1 hpp.2
  have hl : (m.map fun q => pr q.1 q.2).length * (2 * (j + 3) + 3 + 2) ≤ 1000 * 811 := by
    rw [List.length_map]
    exact Nat.mul_le_mul hm (by omega)
  cases t
  · exact (Shw.list hp).ok (by decide) (by omega)
  · have q := Shw.tuple hp
    unfold showOk
    show (isSeq (PyData.tuple _) && (PyData.tuple _).showable && !(PyData.tuple _).hasDict && decide ((PyData.tuple _).depth ≤ 60) && decide ((PyData.tuple _).shown.length ≤ sizeLine)) = true
    rw [q.s, q.h, decide_eq_true (Nat.le_trans q.d (by decide)), decide_eq_true (show (PyData.tuple _).shown.length ≤ sizeLine by rw [sizeL]; exact Nat.le_trans q.l (by omega))]
    rfl
end
end MP.P


/-! L_edgA: what edges_of, unlike, row_by of rows tell. -/
namespace MP.P
open PySem MP
section
variable {M : Md} {k : Nat} {s : Sto}
theorem mr_row (r : Row) : mr false (r.map fun p => (true, p)) = .list (r.map prI) := by
  show PyData.list ((r.map fun p => (true, p)).map fun q => pr q.1 q.2) = _
  rw [List.map_map]
  rfl
theorem rowOf_row : ∀ r : Row, rowOf (r.map fun p => (true, p)) = r
  | [] => rfl
  | p :: r => congrArg (p :: ·) (rowOf_row r)
theorem m_edges_of [Has M "edges_of" d_edges_of] (hk : 1 ≤ k) {r : Row} (hr : r.length ≤ 1000000) : lev M k "edges_of" [.d (.list (r.map prI))] s = some (.d (.list ((edg r).map .int)), s) := by
  refine d_clean hk rfl rfl rfl ?_
  show Wl _ (exB _ b_edges_of [some (.d (.list (r.map prI))), none, none, none] [])
  unfold b_edges_of
  have e : (edg r).map PyData.int = r.flatMap fun p => [PyData.int p.1, PyData.int (p.2 + 1)] := by
    unfold edg
    rw [List.map_flatMap]
    rfl
  rw [e]
  refine w_ret (s1 := []) (e_comp2 (l := r) (φ := fun p => Vl.d (prI p)) (g := []) (fun p => [.int p.1, .int (p.2 + 1)]) (i_row (e_var rfl)) okGb_nil ?_ fun p _ => ⟨_, rfl, i_seq (e_tup (es_cons (e_var rfl) (es_cons (e_o2 (e_var rfl) e_cst v_add) es_nil)) rfl) rfl, fun y _ => ⟨_, rfl, e_var rfl⟩⟩) ⟨rfl⟩
  have := edg_len r
  rw [← e, List.length_map]
  omega
theorem flt_ints {xs : List Int} : okD (.list (xs.map PyData.int)) = true := (Flt.list (n := 0) fun y hy => by
  obtain ⟨z, _, rfl⟩ := List.mem_map.mp hy
  exact Flt.int _).ok (by decide)
theorem any_mem {x : Int} {xs : List Int} : ((xs.map PyData.int).any fun y => PyData.eqv y (.int x)) = decide (x ∈ xs) := by
  rw [List.any_map, Bool.eq_iff_iff, List.any_eq_true, decide_eq_true_eq]
  constructor
  · rintro ⟨y, hy, e⟩
    have : (y == x) = true := e
    rw [← beq_iff_eq.mp this]
    exact hy
  · intro h
    exact ⟨x, h, by show (x == x) = true; simp⟩
theorem v_ninI {x : Int} {xs : List Int} : o2v .nin s (.d (.int x)) (.d (.list (xs.map .int))) = some (.d (.bool (!decide (x ∈ xs)))) := by
  show (if okD (.int x) && okD (.list (xs.map PyData.int)) then some (Vl.d (.bool (!((xs.map PyData.int).any fun y => PyData.eqv y (.int x))))) else none) = _
  rw [flt_ints, any_mem]
  rfl
theorem wk_ints (l : List Int) (s : Sto) : wkOf s (.d (.list (l.map .int))) = some (l.map (fun x => Vl.d (.int x)), []) := by
  show some ((l.map PyData.int).map Vl.d, []) = _
  rw [List.map_map]
  rfl
theorem b_sorted {xs : List Int} : biv .sorted s [.d (.list (xs.map .int))] = some (.d (.list ((sortI xs).map .int))) := by
  show (match intsOf (xs.map .int) with
    | some ns => some (Vl.d (.list ((sortI ns).map .int)))
    | none => (pairsOf (xs.map .int)).map fun ps => Vl.d (.list ((sortP ps).map prD))) = _
  rw [intsOf_map]
theorem m_unlike [Has M "unlike" d_unlike] (hk : 1 ≤ k) {A B : List Int} (hA : A.length ≤ 1000000) (hB : B.length ≤ 1000000) : lev M k "unlike" [.d (.list (A.map .int)), .d (.list (B.map .int))] s = some (.d (.list ((unl A B).map .int)), s) := by
  refine d_clean hk rfl rfl rfl ?_
  show Wl _ (exB _ b_unlike [some (.d (.list (A.map .int))), some (.d (.list (B.map .int))), none] [])
  unfold b_unlike
  have c1 : evE (levG M (k - 1)) x_unlike_1 [some (.d (.list (A.map .int))), some (.d (.list (B.map .int))), none] [] = some (.d (.list ((A.filter fun e => !decide (e ∈ B)).map .int)), []) :=
    e_compF (l := A) (φ := fun x => Vl.d (.int x)) (g := []) (fun x => .int x) (fun e => !decide (e ∈ B)) (i_seq (e_var rfl) (wk_ints _ _)) okGb_nil (by omega) fun x _ => ⟨_, rfl, c_so (e_o2 (e_var rfl) (e_var rfl) v_ninI), fun _ => e_var rfl⟩
  have c2 : evE (levG M (k - 1)) x_unlike_2 [some (.d (.list (A.map .int))), some (.d (.list (B.map .int))), none] [] = some (.d (.list ((B.filter fun e => !decide (e ∈ A)).map .int)), []) :=
    e_compF (l := B) (φ := fun x => Vl.d (.int x)) (g := []) (fun x => .int x) (fun e => !decide (e ∈ A)) (i_seq (e_var rfl) (wk_ints _ _)) okGb_nil (by omega) fun x _ => ⟨_, rfl, c_so (e_o2 (e_var rfl) (e_var rfl) v_ninI), fun _ => e_var rfl⟩
  have l1 := List.length_filter_le (fun e => !decide (e ∈ B)) A
  have l2 := List.length_filter_le (fun e => !decide (e ∈ A)) B
  refine w_ret (s1 := []) (e_bi (es_cons (x := .d (.list ((A.filter (fun e => !decide (e ∈ B)) ++ B.filter fun e => !decide (e ∈ A)).map .int))) (e_o2 c1 c2 ?_) es_nil) b_sorted) ⟨rfl⟩
  rw [v_addL (xs := (A.filter fun e => !decide (e ∈ B)).map .int) (ys := (B.filter fun e => !decide (e ∈ A)).map .int) rfl rfl (by rw [List.length_map, List.length_map, sizeL]; omega), List.map_append]
def prs : List Int → List (Int × Int)
  | a :: b :: r => (a, b) :: prs r
  | _ => []
theorem rowE_prs : ∀ E : List Int, rowE E = (prs E).map fun q => (q.1, q.2 - 1)
  | [] => rfl
  | [_] => rfl
  | a :: b :: r => by
    show (a, b - 1) :: rowE r = _
    rw [rowE_prs r]
    rfl
theorem evens_odd : ∀ (b : PyData) (r : List PyData), evens (b :: r) = b :: evens (r.drop 1)
  | b, [] => rfl
  | b, c :: r => rfl
theorem zip_prs : ∀ E : List Int, (evens (E.map PyData.int)).zip (evens ((E.map PyData.int).drop 1)) = (prs E).map fun q => (PyData.int q.1, PyData.int q.2)
  | [] => rfl
  | [_] => rfl
  | a :: b :: r => by
    show (PyData.int a :: evens (r.map PyData.int)).zip (evens (PyData.int b :: r.map PyData.int)) = _
    rw [evens_odd, List.zip_cons_cons, zip_prs r]
    rfl
theorem prs_len : ∀ E : List Int, 2 * (prs E).length ≤ E.length
  | [] => Nat.le_refl _
  | [_] => by show 0 ≤ _; omega
  | a :: b :: r => by
    have := prs_len r
    show 2 * ((prs r).length + 1) ≤ r.length + 1 + 1
    omega
theorem e_skL {G : Cn} {r : Nv} {s1 : Sto} {kk : Sk} {a : Ex} {xs : List PyData} (h : evE G a r s = some (.d (.list xs), s1)) : evE G (.sk kk a) r s = some (.d (.list (skD kk xs)), s1) := by
  rw [evE, h, bnd_some]
  rfl
theorem i_prs {G : Cn} {nv : Nv} {i : Nat} {E : List Int} (hi : nv[i]? = some (some (.d (.list (E.map .int))))) : evI G (.zip (.sk .even (.var i)) (.sk .odd (.var i))) nv s = some (((prs E).map fun q => Vl.d (.tuple [.int q.1, .int q.2]), []), s) := by
  rw [i_zipL (G := G) (r := nv) (s := s) (a := .sk .even (.var i)) (b := .sk .odd (.var i)) (e_skL (e_var hi)) (e_skL (e_var hi))]
  show some ((((evens (E.map PyData.int)).zip (evens ((E.map PyData.int).drop 1))).map fun p => Vl.d (.tuple [p.1, p.2]), []), s) = _
  rw [zip_prs, List.map_map]
  rfl
abbrev prV (p : Int × Int) : Vl := Vl.d (prI p)
end
end MP.P

/-! W_sum: plain laws: heads counted, places added, place by place. -/
namespace MP.P
open PySem MP
def term (G : Int → Int) (x : Int) (p : Int × Int) : Int := if p.1 ≤ x then G (min p.2 x) - G (p.1 - 1) else 0
def rsum (G : Int → Int) (r : Row) (x : Int) : Int := (r.map (term G x)).sum
theorem rsum_cons (G : Int → Int) (p : Int × Int) (r : Row) (x : Int) : rsum G (p :: r) x = term G x p + rsum G r x := rfl
theorem has_cons (p : Int × Int) (r : Row) (x : Int) : hasC (p :: r) x = (inS x p || hasC r x) := rfl
theorem has_tail {p : Int × Int} {r : Row} (g : Good (p :: r)) {x : Int} (h : inS x p = true) : hasC r x = false := by
  cases e : hasC r x with
  | false => rfl
  | true =>
    exfalso
    obtain ⟨q, hq, h1, h2⟩ := has_mem.mp e
    have := (List.pairwise_cons.mp g.o).1 q hq
    unfold inS at h
    simp at h
    omega
theorem term_step (G : Int → Int) {p : Int × Int} (h : p.1 ≤ p.2) (x : Int) : term G (x + 1) p = term G x p + if inS (x + 1) p then G (x + 1) - G x else 0 := by
  unfold term inS
  by_cases h1 : p.1 ≤ x
  · by_cases h2 : p.2 ≤ x
    · have e1 : min p.2 (x + 1) = p.2 := by omega
      have e2 : min p.2 x = p.2 := by omega
      have e3 : decide (x + 1 ≤ p.2) = false := decide_eq_false (by omega)
      rw [if_pos (by omega), if_pos h1, e1, e2, e3]
      simp
    · have e1 : min p.2 (x + 1) = x + 1 := by omega
      have e2 : min p.2 x = x := by omega
      have e3 : decide (x + 1 ≤ p.2) = true := decide_eq_true (by omega)
      have e4 : decide (p.1 ≤ x + 1) = true := decide_eq_true (by omega)
      rw [if_pos (by omega), if_pos h1, e1, e2, e3, e4]
      simp
      omega
  · by_cases h2 : p.1 = x + 1
    · have e1 : min p.2 (x + 1) = x + 1 := by omega
      have e3 : decide (x + 1 ≤ p.2) = true := decide_eq_true (by omega)
      have e4 : decide (p.1 ≤ x + 1) = true := decide_eq_true (by omega)
      have e5 : p.1 - 1 = x := by omega
      rw [if_pos (by omega), if_neg h1, e1, e3, e4, e5]
      simp
    · have e4 : decide (p.1 ≤ x + 1) = false := decide_eq_false (by omega)
      rw [if_neg (by omega), if_neg h1, e4]
      simp
theorem rsum_step (G : Int → Int) (x : Int) : ∀ {r : Row}, Good r → rsum G r (x + 1) = rsum G r x + if hasC r (x + 1) then G (x + 1) - G x else 0
  | [], _ => by
    show (0 : Int) = 0 + if false = true then _ else 0
    simp
  | p :: r, g => by
    have ih := rsum_step G x (Good.suf (a := [p]) g)
    rw [rsum_cons, rsum_cons, ih, term_step G (g.s p (by simp)).2, has_cons]
    cases h : inS (x + 1) p with
    | true =>
      rw [has_tail g h]
      simp
      omega
    | false =>
      simp
      omega
theorem rsum_zero (G : Int → Int) {r : Row} (g : Good r) : rsum G r 0 = 0 := by
  unfold rsum
  have : r.map (term G 0) = r.map fun _ => 0 := List.map_congr_left fun p hp => by
    have := g.s p hp
    unfold term
    rw [if_neg (by omega)]
  rw [this]
  induction r with
  | nil => rfl
  | cons p r ih => rw [List.map_cons, List.sum_cons, ih (Good.suf (a := [p]) g) (List.map_congr_left fun q hq => by
      have := g.s q (List.mem_cons_of_mem _ hq)
      unfold term
      rw [if_neg (by omega)])]; rfl
/-- nothing more behind the last place -/
theorem rsum_big (G : Int → Int) {r : Row} (g : Good r) {x : Int} (h : Within r x) : rsum G r x = (r.map fun p => G p.2 - G (p.1 - 1)).sum := by
  unfold rsum
  congr 1
  refine List.map_congr_left fun p hp => ?_
  have h1 := g.s p hp
  have h2 := h p hp
  unfold term
  rw [if_pos (by omega)]
  congr 2
  omega
def one (x : Int) : Int := x
def two (x : Int) : Int := x * (x + 1)
theorem cntTo_rsum (x : Int) : ∀ r : Row, cntTo r x = rsum one r x
  | [] => rfl
  | p :: r => by
    have ih := cntTo_rsum x r
    rw [rsum_cons, ← ih]
    unfold cntTo term one
    by_cases h : p.1 ≤ x
    · rw [List.filter_cons_of_pos (by simpa using h), List.map_cons, List.sum_cons, if_pos h]
      omega
    · rw [List.filter_cons_of_neg (by simpa using h), if_neg h]
      omega
theorem cnt_rsum {r : Row} (g : Good r) {x : Int} (h : Within r x) : cnt r = rsum one r x := by
  rw [rsum_big one g h]
  unfold cnt
  congr 1
  refine List.map_congr_left fun p _ => ?_
  unfold wid one
  omega
theorem mul_dbl (f l : Int) : (f + l) * (l - f + 1) = l * (l + 1) - (f - 1) * (f - 1 + 1) := by
  have e : f - 1 + 1 = f := by omega
  rw [e]
  simp only [Int.add_mul, Int.mul_add, Int.mul_sub, Int.sub_mul, Int.mul_one, Int.one_mul]
  rw [Int.mul_comm l f]
  omega
def dbl (r : Row) : Int := (r.map fun p => (p.1 + p.2) * (p.2 - p.1 + 1)).sum
theorem dbl_rsum {r : Row} (g : Good r) {x : Int} (h : Within r x) : dbl r = rsum two r x := by
  rw [rsum_big two g h]
  unfold dbl
  congr 1
  refine List.map_congr_left fun p _ => ?_
  rw [mul_dbl]
  rfl
theorem even_mul (a b : Int) : 2 * ((a + b) * (b - a + 1) / 2) = (a + b) * (b - a + 1) := by
  have h : ((a + b) * (b - a + 1)) % 2 = 0 := by
    rw [Int.mul_emod]
    rcases (by omega : (a + b) % 2 = 0 ∨ (a + b) % 2 = 1) with q | q
    · rw [q]
      simp
    · have : (b - a + 1) % 2 = 0 := by omega
      rw [this]
      simp
  omega
theorem sums_dbl : ∀ r : Row, 2 * sums r = dbl r
  | [] => rfl
  | p :: r => by
    have ih := sums_dbl r
    unfold sums dbl at ih ⊢
    rw [List.map_cons, List.map_cons, List.sum_cons, List.sum_cons, Int.mul_add, ih, even_mul]
theorem two_step (x : Int) : two (x + 1) - two x = 2 * (x + 1) := by
  unfold two
  simp only [Int.add_mul, Int.mul_add, Int.mul_one, Int.one_mul]
  omega
/-- a coin turned over -/
theorem over_rsum (G : Int → Int) {r : Row} (g : Good r) {p : Int} (hp : 1 ≤ p) : ∀ x : Nat, rsum G (over r p) x = rsum G r x + if p ≤ x then (if hasC r p then -(G p - G (p - 1)) else G p - G (p - 1)) else 0
  | 0 => by
    rw [show ((0 : Nat) : Int) = 0 from rfl, rsum_zero G (over_good g hp), rsum_zero G g, if_neg (by omega)]
    rfl
  | x + 1 => by
    have ih := over_rsum G g hp x
    have e : ((x + 1 : Nat) : Int) = (x : Int) + 1 := by omega
    rw [e, rsum_step G _ (over_good g hp), rsum_step G _ g, ih, over_has g]
    by_cases h : (x : Int) + 1 = p
    · subst h
      have e1 : (x : Int) + 1 - 1 = x := by omega
      rw [if_neg (by omega), if_pos (Int.le_refl _), e1, decide_eq_true rfl, Bool.xor_true]
      cases hasC r ((x : Int) + 1) <;> simp <;> omega
    · rw [decide_eq_false h, Bool.xor_false]
      by_cases h2 : p ≤ x
      · rw [if_pos h2, if_pos (show p ≤ (x : Int) + 1 by omega)]
        exact Int.add_right_comm ..
      · rw [if_neg h2, if_neg (show ¬ p ≤ (x : Int) + 1 by omega)]
        exact Int.add_right_comm ..
theorem over_le {r : Row} (g : Good r) {p n : Int} (h : Within r n) : Within (over r p) (max n p) := fun q hq => by
  have := (rowE_mem hq).2
  rcases unl_mem this with z | z
  · have := edg_le g h _ z
    omega
  · simp at z
    omega
theorem over_len {r : Row} (g : Good r) {p : Int} : (over r p).length ≤ r.length + 1 := by
  have h1 := rowE_len (unl (edg r) [p, p + 1])
  have h2 := unl_len_le (nodup_of_lt (edg_asc g).1) (nodup_of_lt (pair_asc p))
  rw [edg_len] at h2
  simp at h2
  unfold over
  omega
theorem over_over {r : Row} (g : Good r) {p : Int} (hp : 1 ≤ p) : over (over r p) p = r := by
  refine good_ext (over_good (over_good g hp) hp) g fun x => ?_
  rw [over_has (over_good g hp), over_has g, Bool.xor_assoc]
  simp
/-- turned about -/
theorem abt_one {r : Row} (g : Good r) {n : Nat} (hn : 1 ≤ n) (h : Within r n) : ∀ x : Nat, x ≤ n → rsum one (abt r n) x = x - (rsum one r n - rsum one r ((n : Int) - x))
  | 0, _ => by
    rw [show ((0 : Nat) : Int) = 0 from rfl, rsum_zero one (abt_good g (by omega) h)]
    have e : (n : Int) - 0 = n := by omega
    rw [e]
    omega
  | x + 1, hx => by
    have ih := abt_one g hn h x (by omega)
    have e : ((x + 1 : Nat) : Int) = (x : Int) + 1 := by omega
    have hs := rsum_step one ((n : Int) - (x + 1)) g
    have e2 : (n : Int) - (x + 1) + 1 = n - x := by omega
    rw [e2] at hs
    have e3 : (n : Int) + 1 - ((x : Int) + 1) = n - x := by omega
    rw [e, rsum_step one _ (abt_good g (by omega) h), ih, abt_has g (by omega) h, decide_eq_true (by omega), Bool.true_and, e3, hs]
    unfold one
    cases hasC r ((n : Int) - x) <;> simp <;> omega
theorem abt_two {r : Row} (g : Good r) {n : Nat} (hn : 1 ≤ n) (h : Within r n) : ∀ x : Nat, x ≤ n → rsum two (abt r n) x = two x - 2 * (((n : Int) + 1) * (rsum one r n - rsum one r ((n : Int) - x))) + (rsum two r n - rsum two r ((n : Int) - x))
  | 0, _ => by
    rw [show ((0 : Nat) : Int) = 0 from rfl, rsum_zero two (abt_good g (by omega) h)]
    have e : (n : Int) - 0 = n := by omega
    rw [e]
    have e2 : rsum one r n - rsum one r n = 0 := by omega
    rw [e2]
    unfold two
    simp
  | x + 1, hx => by
    have ih := abt_two g hn h x (by omega)
    have e : ((x + 1 : Nat) : Int) = (x : Int) + 1 := by omega
    have hs1 := rsum_step one ((n : Int) - (x + 1)) g
    have hs2 := rsum_step two ((n : Int) - (x + 1)) g
    have ts1 := two_step ((n : Int) - (x + 1))
    have ts2 := two_step (x : Int)
    have e2 : (n : Int) - (x + 1) + 1 = n - x := by omega
    rw [e2] at hs1 hs2 ts1
    have e3 : (n : Int) + 1 - ((x : Int) + 1) = n - x := by omega
    rw [e, rsum_step two _ (abt_good g (by omega) h), ih, abt_has g (by omega) h, decide_eq_true (by omega), Bool.true_and, e3]
    have so : one ((n : Int) - x) - one ((n : Int) - (x + 1)) = 1 := by unfold one; omega
    cases hh : hasC r ((n : Int) - x) with
    | true =>
      rw [hh] at hs1 hs2
      simp only [if_true] at hs1 hs2
      simp only [Bool.not_true, Bool.false_eq_true, if_false, Int.add_zero]
      have e4 : rsum one r n - rsum one r ((n : Int) - (x + 1)) = (rsum one r n - rsum one r ((n : Int) - x)) + 1 := by omega
      rw [e4, Int.mul_add ((n : Int) + 1)]
      omega
    | false =>
      rw [hh] at hs1 hs2
      simp only [Bool.false_eq_true, if_false, Int.add_zero] at hs1 hs2
      simp only [Bool.not_false, if_true]
      rw [hs1, hs2]
      omega
theorem abt_abt {r : Row} (g : Good r) {n : Int} (hn : 1 ≤ n) (h : Within r n) (h2 : Within (abt r n) n) : abt (abt r n) n = r := by
  have g2 := abt_good g hn h
  refine good_ext (abt_good g2 hn h2) g fun x => ?_
  rw [abt_has g2 hn h2, abt_has g hn h]
  have e : n + 1 - (n + 1 - x) = x := by omega
  rw [e]
  cases hx : hasC r x with
  | true =>
    have := has_in g h hx
    simp
    omega
  | false =>
    by_cases hr : 1 ≤ x ∧ x ≤ n
    · have : 1 ≤ n + 1 - x ∧ n + 1 - x ≤ n := by omega
      rw [decide_eq_true hr, decide_eq_true this]
      rfl
    · rw [decide_eq_false hr]
      rfl
theorem abt_in {r : Row} (g : Good r) {n : Int} (hn : 1 ≤ n) (h : Within r n) : Within (abt r n) n := fun q hq => by
  have := (rowE_mem hq).2
  have he := (sortI_perm2 _).mem_iff.mp this
  obtain ⟨e', he', e⟩ := List.mem_map.mp he
  rcases unl_mem he' with z | z
  · have := (edg_asc g).2 e' z
    omega
  · simp at z
    omega
theorem abt_len {r : Row} (g : Good r) {n : Int} (hn : 1 ≤ n) : (abt r n).length ≤ r.length + 1 := by
  have h1 := rowE_len (sortI ((unl (edg r) [1, n + 1]).map fun e => n + 2 - e))
  have h2 := unl_len_le (nodup_of_lt (edg_asc g).1) (nodup_of_lt (two_asc hn))
  rw [(sortI_perm2 _).length_eq, List.length_map] at h1
  rw [edg_len] at h2
  simp at h2
  unfold abt
  omega
/-- the so-manieth head -/
theorem cntTo_cons (p : Int × Int) (r : Row) (x : Int) : cntTo (p :: r) x = (if p.1 ≤ x then min p.2 x - p.1 + 1 else 0) + cntTo r x := by
  unfold cntTo
  by_cases h : p.1 ≤ x
  · rw [List.filter_cons_of_pos (by simpa using h), List.map_cons, List.sum_cons, if_pos h]
  · rw [List.filter_cons_of_neg (by simpa using h), if_neg h]
    omega
theorem cntTo_low {r : Row} {x : Int} (h : ∀ p ∈ r, x < p.1) : cntTo r x = 0 := by
  unfold cntTo
  rw [List.filter_eq_nil_iff.mpr]
  · rfl
  · intro p hp
    have := h p hp
    simp
    omega
theorem nth_ok : ∀ {r : Row} {n v : Int}, Good r → 1 ≤ n → nthF r n = some v → hasC r v = true ∧ cntTo r v = n ∧ cntTo r (v - 1) = n - 1
  | p :: r, n, v, g, h1, h => by
    have hp := g.s p (by simp)
    have ho := (List.pairwise_cons.mp g.o).1
    unfold nthF at h
    by_cases hw : n ≤ wid p
    · rw [if_pos hw] at h
      have hv : p.1 + n - 1 = v := Option.some.inj h
      unfold wid at hw
      have low : ∀ y, y ≤ p.2 → cntTo r y = 0 := fun y hy => cntTo_low fun q hq => by
        have := ho q hq
        omega
      refine ⟨has_mem.mpr ⟨p, by simp, by omega, by omega⟩, ?_, ?_⟩
      · rw [cntTo_cons, low v (by omega), if_pos (by omega)]
        omega
      · rw [cntTo_cons, low (v - 1) (by omega)]
        split <;> omega
    · rw [if_neg hw] at h
      obtain ⟨q1, q2, q3⟩ := nth_ok (Good.suf (a := [p]) g) (by omega) h
      obtain ⟨z, hz, z1, z2⟩ := has_mem.mp q1
      have := ho z hz
      unfold wid at q2 q3
      refine ⟨by rw [has_cons, q1]; simp, ?_, ?_⟩
      · rw [cntTo_cons, q2, if_pos (by omega)]
        omega
      · rw [cntTo_cons, q3, if_pos (by omega)]
        omega
theorem nth_cnt : ∀ {r : Row} {y : Int}, Good r → hasC r y = true → nthF r (cntTo r y) = some y ∧ 1 ≤ cntTo r y ∧ cntTo r y ≤ cnt r
  | p :: r, y, g, h => by
    have hp := g.s p (by simp)
    have ho := (List.pairwise_cons.mp g.o).1
    have gr := Good.suf (a := [p]) g
    rw [has_cons] at h
    cases hi : inS y p with
    | true =>
      unfold inS at hi
      simp at hi
      have low : cntTo r y = 0 := cntTo_low fun q hq => by
        have := ho q hq
        omega
      have hc := cnt_nn gr
      rw [cntTo_cons, low, if_pos hi.1, cnt_cons]
      unfold nthF wid
      rw [if_pos (by omega)]
      refine ⟨by congr 1; omega, by omega, by omega⟩
    | false =>
      rw [hi, Bool.false_or] at h
      obtain ⟨q1, q2, q3⟩ := nth_cnt gr h
      obtain ⟨z, hz, z1, z2⟩ := has_mem.mp h
      have := ho z hz
      rw [cntTo_cons, if_pos (by omega), cnt_cons]
      have e : min p.2 y - p.1 + 1 = wid p := by unfold wid; omega
      have hwp : 1 ≤ wid p := by unfold wid; omega
      rw [e]
      unfold nthF
      rw [if_neg (by omega)]
      have e2 : wid p + cntTo r y - wid p = cntTo r y := by omega
      rw [e2]
      exact ⟨q1, by omega, by omega⟩
end MP.P


/-! L_turnA: what row_by, turned_over, about, row_of of rows tell, where they are clean. -/
namespace MP.P
open PySem MP
section
variable {M : Md} {k : Nat} {s : Sto}
theorem m_row_by [Has M "row_by" d_row_by] (hk : 1 ≤ k) {E : List Int} (hr : E.length ≤ 1000000) : lev M k "row_by" [.d (.list (E.map .int))] s = some (.d (.list ((rowE E).map prI)), s) := by
  refine d_clean hk rfl rfl rfl ?_
  show Wl _ (exB _ b_row_by [some (.d (.list (E.map .int))), none, none] [])
  unfold b_row_by
  have hl := prs_len E
  have e : (rowE E).map prI = (prs E).map fun q => PyData.tuple [.int q.1, .int (q.2 - 1)] := by
    rw [rowE_prs, List.map_map]
    rfl
  rw [e]
  exact w_ret (s1 := []) (e_comp (l := prs E) (φ := fun q => Vl.d (.tuple [.int q.1, .int q.2])) (g := []) (fun q => .tuple [.int q.1, .int (q.2 - 1)]) (i_prs rfl) okGb_nil (by omega) fun p _ => ⟨_, rfl, c_no, e_tup (es_cons (e_var rfl) (es_cons (e_o2 (e_var rfl) e_cst v_sub) es_nil)) rfl⟩) ⟨rfl⟩
theorem m_turned_over [Has M "is_whole" d_is_whole] [Has M "is_stretch" d_is_stretch] [Has M "is_row" d_is_row] [Has M "plain" d_plain] [Has M "need_row" d_need_row] [Has M "edges_of" d_edges_of] [Has M "row_by" d_row_by] [Has M "unlike" d_unlike] [Has M "turned_over" d_turned_over]
    (hk : 6 ≤ k) {t : Bool} {m : MRow} {p : Int} (hr : m.length ≤ 100000) (g : Good (rowOf m)) (hp : 1 ≤ p) : lev M k "turned_over" [.d (mr t m), .d (.int p)] s = some (.d (.list ((over (rowOf m) p).map prI)), s) := by
  refine d_clean (by omega) rfl rfl rfl ?_
  show Wl _ (exB _ b_turned_over [some (.d (mr t m)), some (.d (.int p)), none] [])
  have hrl : (rowOf m).length ≤ 100000 := by rw [List.length_map]; exact hr
  have hel := edg_len (rowOf m)
  unfold b_turned_over
  refine w_asg (s1 := []) (e_call (es_cons (e_var rfl) es_nil) (m_need_row (by omega) (by omega) (isRow_of g))) rfl ?_
  refine w_if (s1 := []) (e_not (e_call (es_cons (e_var rfl) (es_cons e_cst es_nil)) (m_is_whole (by omega)))) (fun h => ?_) fun _ => ?_
  · simp at h
    omega
  refine w_if (s1 := []) (e_o2 (e_var rfl) e_cst v_eqI) (fun h => ?_) fun _ => ?_
  · have := of_decide_eq_true h
    omega
  have ul := m_unlike (M := M) (k := k - 1) (s := []) (A := edg (rowOf m)) (B := [p, p + 1]) (by omega) (by omega) (by simp)
  refine w_ret (s1 := []) (e_call (es_cons (e_call (es_cons (e_call (es_cons (e_var rfl) es_nil) (m_edges_of (by omega) (by omega))) (es_cons (e_lstT (es_cons (e_var rfl) (es_cons (e_o2 (e_var rfl) e_cst v_add) es_nil)) rfl) es_nil)) ul) es_nil) (m_row_by (by omega) ?_)) ⟨rfl⟩
  have := unl_len_le (nodup_of_lt (edg_asc g).1) (nodup_of_lt (pair_asc p))
  simp at this
  omega
/-- turned about, none within none -/
def abtZ (r : Row) (n : Int) : Row := if n = 0 then [] else abt r n
end
end MP.P

/-! W_flip: plain laws: a coin turned over by cutting stretches, sorting, joining. -/
namespace MP.P
open PySem MP
def cutP (p : Int) (q : Int × Int) : List (Int × Int) := [(q.1, min q.2 (p - 1)), (max q.1 (p + 1), q.2)].filter fun t => decide (t.1 ≤ t.2)
def partsR (r : Row) (p : Int) : List (Int × Int) := r.flatMap (cutP p)
def partsF (r : Row) (p : Int) : List (Int × Int) := partsR r p ++ if decide (0 < p) && !hasC r p then [(p, p)] else []
def stepM (a : Row) (q : Int × Int) : Row := match a.getLast? with
  | some l => if l.2 + 1 = q.1 then a.dropLast ++ [(l.1, q.2)] else a ++ [q]
  | none => a ++ [q]
def mergeF (l : List (Int × Int)) : Row := l.foldl stepM []
theorem mergeF_app (l : List (Int × Int)) (q : Int × Int) : mergeF (l ++ [q]) = stepM (mergeF l) q := by
  unfold mergeF
  rw [List.foldl_append]
  rfl
theorem stepM_len (a : Row) (q : Int × Int) : (stepM a q).length ≤ a.length + 1 := by
  unfold stepM
  split
  · split <;> simp <;> omega
  · simp
theorem mergeF_len : ∀ l : List (Int × Int), (mergeF l).length ≤ l.length := by
  refine revInd (Nat.le_refl _) fun l q ih => ?_
  rw [mergeF_app, List.length_append, List.length_singleton]
  have := stepM_len (mergeF l) q
  omega
def flipF (r : Row) (p : Int) : Row := mergeF (sortP (partsF r p))
def Dj (a b : Int × Int) : Prop := a.2 < b.1 ∨ b.2 < a.1
theorem cut_mem {p : Int} {q t : Int × Int} (h : t ∈ cutP p q) : t.1 ≤ t.2 ∧ q.1 ≤ t.1 ∧ t.2 ≤ q.2 ∧ (t.2 < p ∨ p < t.1) := by
  unfold cutP at h
  rw [List.mem_filter] at h
  obtain ⟨h1, h2⟩ := h
  have h2 := of_decide_eq_true h2
  rcases List.mem_cons.mp h1 with z | z
  · subst z
    simp only at h2 ⊢
    omega
  · have z := List.mem_singleton.mp z
    subst z
    simp only at h2 ⊢
    omega
theorem cut_has (p : Int) (q : Int × Int) (hq : q.1 ≤ q.2) (x : Int) : (cutP p q).any (inS x) = (inS x q && !decide (x = p)) := by
  unfold cutP
  rw [List.any_filter]
  unfold inS
  rw [Bool.eq_iff_iff]
  simp
  omega
theorem cut_pw (p : Int) (q : Int × Int) : (cutP p q).Pairwise Dj := by
  unfold cutP
  refine List.Pairwise.filter _ ?_
  rw [List.pairwise_cons]
  refine ⟨fun b hb => ?_, List.pairwise_singleton _ _⟩
  rw [List.mem_singleton.mp hb]
  exact .inl (show min q.2 (p - 1) < max q.1 (p + 1) by omega)
theorem partsR_ok (p : Int) : ∀ {r : Row}, Good r → (partsR r p).Pairwise Dj ∧ (∀ t ∈ partsR r p, 1 ≤ t.1 ∧ t.1 ≤ t.2 ∧ (t.2 < p ∨ p < t.1)) ∧ (∀ t ∈ partsR r p, ∃ q ∈ r, q.1 ≤ t.1 ∧ t.2 ≤ q.2) ∧ ∀ x, (partsR r p).any (inS x) = (hasC r x && !decide (x = p))
  | [], _ => ⟨List.Pairwise.nil, fun _ h => (by cases h), fun _ h => (by cases h), fun _ => rfl⟩
  | q :: r, g => by
    obtain ⟨i1, i2, i3, i4⟩ := partsR_ok p (Good.suf (a := [q]) g)
    have hq := g.s q (by simp)
    have ho := (List.pairwise_cons.mp g.o).1
    have e : partsR (q :: r) p = cutP p q ++ partsR r p := by
      unfold partsR
      rw [List.flatMap_cons]
    rw [e]
    refine ⟨?_, fun t ht => ?_, fun t ht => ?_, fun x => ?_⟩
    · rw [List.pairwise_append]
      refine ⟨cut_pw p q, i1, fun a ha b hb => ?_⟩
      have h1 := cut_mem ha
      obtain ⟨z, hz, h2, _⟩ := i3 b hb
      have := ho z hz
      exact .inl (by omega)
    · rcases List.mem_append.mp ht with ht | ht
      · have := cut_mem ht
        exact ⟨by omega, this.1, this.2.2.2⟩
      · exact i2 t ht
    · rcases List.mem_append.mp ht with ht | ht
      · have := cut_mem ht
        exact ⟨q, by simp, this.2.1, this.2.2.1⟩
      · obtain ⟨z, hz, h⟩ := i3 t ht
        exact ⟨z, List.mem_cons_of_mem _ hz, h⟩
    · rw [List.any_append, cut_has p q hq.2, i4, has_cons]
      cases inS x q <;> cases hasC r x <;> cases decide (x = p) <;> rfl
theorem partsF_ok {r : Row} (g : Good r) {p : Int} (hp : 1 ≤ p) : (partsF r p).Pairwise Dj ∧ (∀ t ∈ partsF r p, 1 ≤ t.1 ∧ t.1 ≤ t.2) ∧ ∀ x, (partsF r p).any (inS x) = (hasC r x ^^ decide (x = p)) := by
  obtain ⟨i1, i2, _, i4⟩ := partsR_ok p g
  unfold partsF
  rw [decide_eq_true (show 0 < p by omega), Bool.true_and]
  cases hh : hasC r p with
  | true =>
    simp only [Bool.not_true, Bool.false_eq_true, if_false, List.append_nil]
    refine ⟨i1, fun t ht => ⟨(i2 t ht).1, (i2 t ht).2.1⟩, fun x => ?_⟩
    rw [i4]
    by_cases hx : x = p
    · subst hx
      rw [hh]
      simp
    · rw [decide_eq_false hx]
      simp
  | false =>
    simp only [Bool.not_false, if_true]
    refine ⟨?_, fun t ht => ?_, fun x => ?_⟩
    · rw [List.pairwise_append]
      refine ⟨i1, List.pairwise_singleton _ _, fun a ha b hb => ?_⟩
      rw [List.mem_singleton.mp hb]
      rcases (i2 a ha).2.2 with z | z
      · exact .inl z
      · exact .inr z
    · rcases List.mem_append.mp ht with ht | ht
      · exact ⟨(i2 t ht).1, (i2 t ht).2.1⟩
      · rw [List.mem_singleton.mp ht]
        exact ⟨hp, Int.le_refl _⟩
    · rw [List.any_append, i4]
      by_cases hx : x = p
      · subst hx
        rw [hh]
        simp [inS]
      · rw [decide_eq_false hx]
        have : [(p, p)].any (inS x) = false := by
          simp [inS]
          omega
        rw [this]
        simp
/-- sorted, apart -/
theorem sort_apart {l : List (Int × Int)} (h1 : l.Pairwise Dj) (h2 : ∀ t ∈ l, 1 ≤ t.1 ∧ t.1 ≤ t.2) : (sortP l).Pairwise (fun a b => a.2 < b.1) ∧ (∀ t ∈ sortP l, 1 ≤ t.1 ∧ t.1 ≤ t.2) ∧ ∀ x, (sortP l).any (inS x) = l.any (inS x) := by
  have hp : (sortP l).Perm l := List.mergeSort_perm _ _
  have hm : ∀ t ∈ sortP l, 1 ≤ t.1 ∧ t.1 ≤ t.2 := fun t ht => h2 t (hp.mem_iff.mp ht)
  refine ⟨?_, hm, fun x => ?_⟩
  · have hd : (sortP l).Pairwise Dj := (hp.pairwise_iff (fun {a b} h => Or.symm h)).mpr h1
    have hs := sortP_sorted l
    refine List.Pairwise.imp_of_mem ?_ (hd.and hs)
    intro a b ha hb h
    have h3 := hm a ha
    have h4 := hm b hb
    have h5 := h.2
    unfold lexLe at h5
    simp at h5
    rcases h.1 with z | z
    · exact z
    · omega
  · rw [Bool.eq_iff_iff, List.any_eq_true, List.any_eq_true]
    constructor
    · rintro ⟨t, ht, h⟩
      exact ⟨t, hp.mem_iff.mp ht, h⟩
    · rintro ⟨t, ht, h⟩
      exact ⟨t, hp.mem_iff.mpr ht, h⟩
theorem has_app (a b : Row) (x : Int) : hasC (a ++ b) x = (hasC a x || hasC b x) := by
  unfold hasC
  rw [List.any_append]
theorem merge_ok : ∀ l : List (Int × Int), l.Pairwise (fun a b => a.2 < b.1) → (∀ t ∈ l, 1 ≤ t.1 ∧ t.1 ≤ t.2) → Good (mergeF l) ∧ (∀ x, hasC (mergeF l) x = l.any (inS x)) ∧ (∀ t ∈ mergeF l, ∃ z ∈ l, t.2 = z.2) := by
  refine revInd ?_ ?_
  · intro _ _
    exact ⟨Good.nil, fun _ => rfl, fun _ h => by cases h⟩
  · intro l q ih h1 h2
    rw [List.pairwise_append] at h1
    obtain ⟨i1, i2, i3⟩ := ih h1.1 fun t ht => h2 t (List.mem_append_left _ ht)
    have hq := h2 q (by simp)
    have hlt : ∀ t ∈ mergeF l, t.2 < q.1 := fun t ht => by
      obtain ⟨z, hz, e⟩ := i3 t ht
      have := h1.2.2 z hz q (by simp)
      omega
    rw [mergeF_app]
    have hone : ∀ x, (l ++ [q]).any (inS x) = (hasC (mergeF l) x || inS x q) := fun x => by
      rw [List.any_append, i2]
      simp
    unfold stepM
    cases e : (mergeF l).getLast? with
    | none =>
      have e0 := List.getLast?_eq_none_iff.mp e
      simp only []
      refine ⟨?_, fun x => ?_, fun t ht => ?_⟩
      · rw [e0, List.nil_append]
        exact ⟨List.pairwise_singleton _ _, fun t ht => by rw [List.mem_singleton.mp ht]; exact hq⟩
      · rw [hone, has_app]
        simp [hasC]
      · rw [e0, List.nil_append] at ht
        exact ⟨q, by simp, by rw [List.mem_singleton.mp ht]⟩
    | some z =>
      simp only []
      obtain ⟨A, hA⟩ : ∃ A, mergeF l = A ++ [z] := by
        have hne : mergeF l ≠ [] := fun h => by rw [h] at e; cases e
        refine ⟨(mergeF l).dropLast, ?_⟩
        rw [List.getLast?_eq_getLast hne] at e
        rw [← Option.some.inj e]
        exact (List.dropLast_concat_getLast hne).symm
      have hz := hlt z (by rw [hA]; simp)
      rw [hA] at i1 i2 i3 hone
      have gz := i1.s z (by simp)
      have go := List.pairwise_append.mp i1.o
      by_cases hj : z.2 + 1 = q.1
      · rw [if_pos hj, hA, List.dropLast_concat]
        refine ⟨⟨?_, fun t ht => ?_⟩, fun x => ?_, fun t ht => ?_⟩
        · rw [List.pairwise_append]
          refine ⟨go.1, List.pairwise_singleton _ _, fun a ha b hb => ?_⟩
          rw [List.mem_singleton.mp hb]
          exact go.2.2 a ha z (by simp)
        · rcases List.mem_append.mp ht with ht | ht
          · exact i1.s t (List.mem_append_left _ ht)
          · rw [List.mem_singleton.mp ht]
            exact ⟨gz.1, by show z.1 ≤ q.2; omega⟩
        · rw [hone, has_app, has_app, Bool.or_assoc]
          congr 1
          unfold hasC inS
          rw [Bool.eq_iff_iff]
          simp
          omega
        · rcases List.mem_append.mp ht with ht | ht
          · obtain ⟨w, hw, e⟩ := i3 t (List.mem_append_left _ ht)
            exact ⟨w, List.mem_append_left _ hw, e⟩
          · exact ⟨q, by simp, by rw [List.mem_singleton.mp ht]⟩
      · rw [if_neg hj, hA]
        refine ⟨⟨?_, fun t ht => ?_⟩, fun x => ?_, fun t ht => ?_⟩
        · rw [List.pairwise_append]
          refine ⟨i1.o, List.pairwise_singleton _ _, fun a ha b hb => ?_⟩
          rw [List.mem_singleton.mp hb]
          rcases List.mem_append.mp ha with ha | ha
          · have h5 := go.2.2 a ha z (by simp)
            have h6 := i1.s z (by simp)
            omega
          · rw [List.mem_singleton.mp ha]
            omega
        · rcases List.mem_append.mp ht with ht | ht
          · exact i1.s t ht
          · rw [List.mem_singleton.mp ht]
            exact hq
        · rw [hone, has_app (A ++ [z])]
          congr 1
          simp [hasC]
        · rcases List.mem_append.mp ht with ht | ht
          · obtain ⟨w, hw, e⟩ := i3 t ht
            exact ⟨w, List.mem_append_left _ hw, e⟩
          · exact ⟨q, by simp, by rw [List.mem_singleton.mp ht]⟩
theorem flip_over {r : Row} (g : Good r) {p : Int} (hp : 1 ≤ p) : flipF r p = over r p := by
  obtain ⟨h1, h2, h3⟩ := partsF_ok g hp
  obtain ⟨s1, s2, s3⟩ := sort_apart h1 h2
  obtain ⟨m1, m2, _⟩ := merge_ok _ s1 s2
  refine good_ext m1 (over_good g hp) fun x => ?_
  rw [show hasC (flipF r p) x = _ from m2 x, s3, h3, over_has g]
end MP.P


/-! L_jarB: what _law_jar, _law_pull, _law_cells, _law_row, _law_pair of the laws k15 .. k23 tell. -/
namespace MP.P
open PySem MP
section
variable {M : Md} {k : Nat} {s : Sto}
structure JOk (c : Int) (b : Bag) : Prop where
  h2 : bits b.2.1 ≤ 400
  h3 : 0 ≤ b.2.2
  h4 : b.2.2 ≤ c
theorem JOk.mono {c d : Int} {b : Bag} (h : JOk c b) (hd : c ≤ d) : JOk d b := ⟨h.h2, h.h3, Int.le_trans h.h4 hd⟩
theorem bits_cube {x : Int} {n : Nat} (h : bits x ≤ n) : bits (x ^ (3 : Int).toNat) ≤ n + n + n := by
  have e : x ^ (3 : Int).toNat = x * x * x := by
    show x ^ 3 = _
    rw [Int.pow_succ, Int.pow_succ, Int.pow_succ, Int.pow_zero, Int.one_mul]
  rw [e]
  exact bits_mul (bits_mul h h) h
theorem v_mulL {xs : List PyData} {j : Int} (h : xs.length * j.toNat ≤ sizeLine) (h1 : -(2 ^ 62) ≤ j) (h2 : j < 2 ^ 62) : o2v .mul s (.d (.list xs)) (.d (.int j)) = some (.d (.list (List.replicate j.toNat xs).flatten)) := by
  show (if xs.length * j.toNat ≤ sizeLine ∧ -(2 ^ 62) ≤ j ∧ j < 2 ^ 62 then some (Vl.d (.list (List.replicate j.toNat xs).flatten)) else none) = _
  rw [if_pos ⟨h, h1, h2⟩]
theorem m_jar [Has M "_law_jar" d_law_jar] (hk : 1 ≤ k) {c j : Int} (hj0 : 0 ≤ j) (hj : j ≤ 1000) : ∃ b, JOk 0 b ∧ lev M k "_law_jar" [.d (.int c), .d (.int j)] s = some (.loc s.length, s ++ [bagL b]) := by
  have p0 : (0 : Int) < 10 ^ (38 : Int).toNat + 133 := by decide +kernel
  have q1 := Int.emod_nonneg c (Int.ne_of_gt p0)
  have q2 := Int.emod_lt_of_pos c p0
  have g0 : bits (c % (10 ^ (38 : Int).toNat + 133)) ≤ 127 := bits_of (Int.lt_of_lt_of_le (by decide +kernel) q1) (Int.lt_of_lt_of_le q2 (by decide +kernel))
  have hj' : bits j ≤ 20 := bits_of (n := 20) (by omega) (by omega)
  have g1 : bits (1299721 * j) ≤ 41 := bits_mul (show bits 1299721 ≤ 21 by decide +kernel) hj'
  refine ⟨(max 0 (c - 10 ^ (18 : Int).toNat), (c % (10 ^ (38 : Int).toNat + 133)) ^ (3 : Int).toNat + 1299721 * j + 271828182845904523, 0), ⟨?_, Int.le_refl _, Int.le_refl _⟩, ?_⟩
  · exact bits_mono (bits_add (n := 382) (bits_add (n := 381) (bits_cube g0) (bits_mono g1 (by decide))) (by decide +kernel)) (by decide)
  refine d_open hk rfl rfl ?_
  show Wl _ (exB _ b_law_jar [some (.d (.int c)), some (.d (.int j))] s)
  unfold b_law_jar
  have p1 : powOk 10 18 = true := by decide +kernel
  have p2 : powOk 10 38 = true := by decide +kernel
  have p5 : powOk (c % (10 ^ (38 : Int).toNat + 133)) 3 = true := powOk_of (by decide) g0 (by decide)
  have p3 : mulOk 1299721 j = true := mulOk_of (show bits 1299721 ≤ 21 by decide +kernel) hj' (by decide)
  repeat' decreasing_trivial_pre_omega
  exact out_loc
theorem m_pull [Has M "_law_pull" d_law_pull] (hk : 1 ≤ k) {n : Nat} {b : Bag} {c m : Int} (hs : s[n]? = some (bagL b)) (ok : JOk c b) (hc : c ≤ 1000000) (hm : 0 < m) (hm2 : bits m ≤ 9000) :
    ∃ v b', 0 ≤ v ∧ v < m ∧ JOk (c + 1) b' ∧ lev M k "_law_pull" [.loc n, .d (.int m)] s = some (.d (.int v), s.set n (bagL b')) := by
  have i0 : ∀ {b : Bag} {s : Sto}, s[n]? = some (bagL b) → o2v .idx s (.loc n) (.d (.int 0)) = some (.d (.int b.1)) := fun hs => by rw [v_ixP hs] <;> rfl
  have i1 : ∀ {b : Bag} {s : Sto}, s[n]? = some (bagL b) → o2v .idx s (.loc n) (.d (.int 1)) = some (.d (.int b.2.1)) := fun hs => by rw [v_ixP hs] <;> rfl
  have i2 : ∀ {b : Bag} {s : Sto}, s[n]? = some (bagL b) → o2v .idx s (.loc n) (.d (.int 2)) = some (.d (.int b.2.2)) := fun hs => by rw [v_ixP hs] <;> rfl
  have hlt : n < s.length := (List.getElem?_eq_some_iff.mp hs).1
  by_cases hb : 0 < b.1
  · refine ⟨b.1 % m, (b.1 / m, b.2.1, b.2.2), Int.emod_nonneg _ (by omega), Int.emod_lt_of_pos _ hm, ⟨ok.h2, ok.h3, by have := ok.h4; show b.2.2 ≤ c + 1; omega⟩, ?_⟩
    refine d_open hk rfl rfl ?_
    show Wl _ (exB _ b_law_pull [some (.loc n), some (.d (.int m)), none] s)
    unfold b_law_pull
    have j0 := i0 hs
    have q1 := divOk_of hm hm2
    apply w_if (t := decide (0 < b.1))
    · repeat' decreasing_trivial_pre_omega
    · intro _
      repeat' decreasing_trivial_pre_omega
      apply w_asgI (n := n) (k := 0) (v := .d (.int (b.1 / m))) (h4 := hs) (j := 0)
      · repeat' decreasing_trivial_pre_omega
      · exact e_var rfl
      · exact e_cst
      · rfl
      · repeat' decreasing_trivial_pre_omega
        exact out_same rfl (by simp)
    · intro h
      simp at h
      omega
  · let c' := b.2.2 + 1
    let b1 : Bag := (b.1, b.2.1, c')
    have hs1 : (s.set n (bagL b1))[n]? = some (bagL b1) := by rw [List.getElem?_set_self hlt]
    have h2 := ok.h2
    have h3 := ok.h3
    have h4 := ok.h4
    have hc' : bits c' ≤ 21 := bits_of (by omega) (by omega)
    let y1 : Int := b.2.1 ^ (3 : Int).toNat + 39916801 * c' + 5
    let x1 : Int := y1 % (10 ^ (33 : Int).toNat + 61)
    let b' : Bag := (b.1, x1, c')
    have p9 : (0 : Int) < 10 ^ (33 : Int).toNat + 61 := by decide +kernel
    have g1 : bits x1 ≤ 400 := bits_mono (bits_nat (Int.emod_nonneg _ (Int.ne_of_gt p9)) (Int.le_of_lt (Int.emod_lt_of_pos _ p9))) (by decide +kernel)
    have hs2 : (s.set n (bagL b'))[n]? = some (bagL b') := by rw [List.getElem?_set_self hlt]
    refine ⟨x1 / 10 ^ (8 : Int).toNat % m, b', Int.emod_nonneg _ (by omega), Int.emod_lt_of_pos _ hm, ⟨g1, by show 0 ≤ b.2.2 + 1; omega, by show b.2.2 + 1 ≤ c + 1; omega⟩, ?_⟩
    refine d_open hk rfl rfl ?_
    show Wl _ (exB _ b_law_pull [some (.loc n), some (.d (.int m)), none] s)
    unfold b_law_pull
    have j0 := i0 hs
    have j2 := i2 hs
    have k1 := i1 hs1
    have k2 := i2 hs1
    have l1 := i1 hs2
    have p2 : powOk 10 33 = true := by decide +kernel
    have p4 : powOk 10 8 = true := by decide +kernel
    have p5 : mulOk 39916801 c' = true := mulOk_of (show bits 39916801 ≤ 26 by decide +kernel) hc' (by decide)
    have p7 : powOk b.2.1 3 = true := powOk_of (by decide) h2 (by decide)
    have p12 : divOk (10 ^ (8 : Int).toNat) = true := by decide +kernel
    apply w_if (t := decide (0 < b.1))
    · repeat' decreasing_trivial_pre_omega
    · intro h
      simp at h
      omega
    · intro _
      show Wl _ (exB _ (.cons _ _) _ _)
      apply w_asgI (n := n) (k := 2) (v := .d (.int c')) (h4 := hs) (j := 2)
      · exact e_o2 (e_o2 (e_var rfl) e_cst j2) e_cst v_add
      · exact e_var rfl
      · exact e_cst
      · rfl
      · show Wl _ (exB _ _ _ (s.set n (bagL b1)))
        apply w_asgI (n := n) (k := 1) (v := .d (.int x1)) (h4 := hs1) (j := 1)
        · exact e_o2 (e_o2 (e_o2 (e_o2 (e_o2 (e_var rfl) e_cst k1) e_cst (v_pow p7)) (e_o2 e_cst (e_o2 (e_var rfl) e_cst k2) (v_mul p5)) v_add) e_cst v_add) (e_o2 (e_o2 e_cst e_cst (v_pow p2)) e_cst v_add) (v_mod p9)
        · exact e_var rfl
        · exact e_cst
        · rfl
        · show Wl _ (exB _ _ _ ((s.set n (bagL b1)).set n (bagL b')))
          rw [List.set_set]
          exact w_ret (e_o2 (e_o2 (e_o2 (e_var rfl) e_cst l1) (e_o2 e_cst e_cst (v_pow p4)) (v_fdiv p12)) (e_var rfl) (v_mod hm)) (out_same rfl (by simp))
theorem pulls [Has M "_law_pull" d_law_pull] (hk : 1 ≤ k) {n : Nat} (hlt : n < s.length) (t : Sto) : ∀ (C m : Int) (b : Bag), JOk C b → C ≤ 1000000 → 0 < m → bits m ≤ 9000 → ∃ v b', 0 ≤ v ∧ v < m ∧ JOk (C + 1) b' ∧ lev M k "_law_pull" [.loc n, .d (.int m)] (s.set n (bagL b) ++ t) = some (.d (.int v), s.set n (bagL b') ++ t) := fun C m b ok hC hm hm2 => by
  obtain ⟨v, b', q1, q2, q3, q4⟩ := m_pull (M := M) (k := k) (m := m) (s := s.set n (bagL b) ++ t) (n := n) hk (by rw [List.getElem?_append_left (by simpa using hlt), List.getElem?_set_self hlt]) ok hC hm hm2
  rw [List.set_append_left _ _ (by simpa using hlt), List.set_set] at q4
  exact ⟨v, b', q1, q2, q3, q4⟩
theorem bag_set {n : Nat} {b : Bag} (hs : s[n]? = some (bagL b)) : s = s.set n (bagL b) := by
  obtain ⟨w1, w2⟩ := List.getElem?_eq_some_iff.mp hs
  rw [← w2, List.set_getElem_self]
theorem m_cells [Has M "_law_cells" d_law_cells] (hk : 1 ≤ k) {ns : List Int} {c : Int} (hl : ns.length ≤ 63) : ∃ ys : List Int, ys.length ≤ 64 ∧ lev M k "_law_cells" [.d (.list (ns.map .int)), .d (.int c)] s = some (.d (.list (ys.map .int)), s) := by
  have e : ∃ z : Int, (z = 0 ∨ z = 1) ∧ (if (ns.map PyData.int).isEmpty = true then (1 : Int) else 0) = z := ⟨_, by split <;> omega, rfl⟩
  obtain ⟨z, hz, e⟩ := e
  refine ⟨cutD ns none (some c) ++ (List.replicate z.toNat [(0 : Int)]).flatten, ?_, ?_⟩
  · have : (cutD ns none (some c)).length ≤ 63 := by
      unfold cutD
      simp
      omega
    rw [List.length_append]
    rcases hz with q | q <;> subst q
    · simpa using Nat.le_succ_of_le this
    · show _ + 1 ≤ 64
      omega
  refine d_clean hk rfl rfl rfl ?_
  show Wl _ (exB _ b_law_cells [some (.d (.list (ns.map .int))), some (.d (.int c))] [])
  unfold b_law_cells
  have e1 : cutD (ns.map PyData.int) none (some c) = (cutD ns none (some c)).map PyData.int := by
    unfold cutD
    rw [List.length_map, List.map_take, List.map_drop]
  refine w_ret (s1 := []) (e_o2 (e_slL (e_var rfl) ox_no (ox_so (e_var rfl)) rfl rfl) (e_o2 (e_lstT (es_cons e_cst es_nil) rfl) (e_bi (es_cons (e_o2 (e_var rfl) (e_lstT es_nil rfl) (v_eqNil rfl flt_ints)) es_nil) b_intB) (v_mulL (by rw [e]; rcases hz with q | q <;> subst q <;> decide) (by rw [e]; omega) (by rw [e]; omega))) ?_) ⟨rfl⟩
  rw [e, e1, v_addL (xs := (cutD ns none (some c)).map .int) (ys := (List.replicate z.toNat [PyData.int 0]).flatten) rfl rfl ?_]
  · rw [List.map_append]
    congr 4
    rcases hz with q | q <;> subst q <;> rfl
  · rw [List.length_map, sizeL]
    have : (cutD ns none (some c)).length ≤ 63 := by
      unfold cutD
      simp
      omega
    rcases hz with q | q <;> subst q
    · show _ + 0 ≤ _
      omega
    · show _ + 1 ≤ _
      omega
/-- a row as these laws draw it -/
structure Drawn (n : Int) (r : Row) : Prop where
  g : Good r
  l : (r.length : Int) ≤ n
  h : Lim 133 r
theorem m_jrow [Has M "_law_pull" d_law_pull] [Has M "_law_row" d_law_row] (hk : 2 ≤ k) {n : Nat} {b : Bag} {c m w : Int} (hs : s[n]? = some (bagL b)) (hd : Dt s) (ok : JOk c b) (hc : c ≤ 100000) (hm0 : 0 ≤ m) (hm : m ≤ 30) (hw0 : 1 ≤ w) (hw : w ≤ 10 ^ 38) :
    ∃ r b', Drawn m r ∧ JOk (c + 61) b' ∧ lev M k "_law_row" [.loc n, .d (.int m), .d (.int w)] s = some (.d (.list (r.map prI)), s.set n (bagL b')) := by
  have hlt : n < s.length := (List.getElem?_eq_some_iff.mp hs).1
  have hsb := bag_set hs
  have fl := pulls (M := M) (k := k - 1) (s := s) (by omega) hlt
  obtain ⟨v1, b1, l1, u1, ok1, d1⟩ := fl [So.lst []] c (m + 1) b ok (by omega) (by omega) (bits_mono (bits_of (n := 20) (by omega) (by omega)) (by decide))
  have wb : bits w ≤ 9000 := bits_mono (bits_nat (y := 10 ^ 38) (by omega) hw) (by decide +kernel)
  have main := d_openE (M := M) (k := k) (x := "_law_row") (s := s) (vs := [.loc n, .d (.int m), .d (.int w)]) (ι := Row × Bag) (R := fun y => Drawn m y.1 ∧ JOk (c + 61) y.2) (v := fun y => .d (.list (y.1.map prI))) (s' := fun y => s.set n (bagL y.2)) (by omega) rfl rfl ?_
  · obtain ⟨y, ⟨h1, h2⟩, h5⟩ := main
    exact ⟨y.1, y.2, h1, h2, h5⟩
  rw [← hsb] at d1
  show Wl _ (exB _ b_law_row [some (.loc n), some (.d (.int m)), some (.d (.int w)), none, none, none, none] s)
  unfold b_law_row
  refine w_asg (e_lstF es_nil) rfl (w_asg e_cst rfl ?_)
  have atl : ∀ (b' : Bag) (r : Row), (s.set n (bagL b') ++ [So.lst (r.map fun p => Vl.d (prI p))])[s.length]? = some (.lst (r.map fun p => Vl.d (prI p))) := fun b' r => by
    rw [List.getElem?_append_right (by simp)]
    simp
  apply w_for (l := List.range v1.toNat) (φ := fun i : Nat => Vl.d (.int (i : Int))) (g := []) (s1 := s.set n (bagL b1) ++ [.lst []]) (fun pre e s1 => ∃ r b' x y, ∃ at' : Int, Far at' r ∧ r.length = pre.length ∧ at' ≤ (pre.length : Int) * (2 * 10 ^ 38 + 10) ∧ JOk (c + 1 + 2 * pre.length) b' ∧ s1 = s.set n (bagL b') ++ [.lst (r.map fun p => Vl.d (prI p))] ∧
    e = [some (.loc n), some (.d (.int m)), some (.d (.int w)), some (.loc s.length), some (.d (.int at')), x, y])
  · exact i_rng1 (e_call (es_cons (e_var rfl) (es_cons (e_o2 (e_var rfl) e_cst v_add) es_nil)) d1) (by unfold smallI; omega)
  · refine ⟨[], b1, none, none, 0, ⟨Good.nil, Int.le_refl _, fun _ h => by cases h⟩, rfl, by simp, ok1.mono (by simp), rfl, rfl⟩
  · rintro pre x post e s1 hl ⟨r, b', y1, y2, a, fr, hrl, hat, okb, rfl, rfl⟩
    obtain ⟨hx, hpre⟩ := range_mid hl
    subst hx
    have flr := fl [So.lst (r.map fun p => Vl.d (prI p))]
    have e38 : (0 : Int) < 10 ^ 38 := by decide +kernel
    obtain ⟨w1, c1, w1l, w1u, oc1, f1⟩ := flr _ w b' okb (by omega) (by omega) wb
    obtain ⟨w2, c2, w2l, w2u, oc2, f2⟩ := flr _ w c1 oc1 (by omega) (by omega) wb
    obtain ⟨z, hz0, hz1, hz2, hze⟩ : ∃ z : Int, 0 ≤ z ∧ z ≤ 1 ∧ (0 < pre.length → z = 1) ∧ (if decide ((0 : Int) < (pre.length : Int)) = true then (1 : Int) else 0) = z := by
      refine ⟨_, ?_, ?_, ?_, rfl⟩
      · split <;> omega
      · split <;> omega
      · intro h
        rw [if_pos (decide_eq_true (by omega))]
    refine ⟨okGb_nil, [some (.loc n), some (.d (.int m)), some (.d (.int w)), some (.loc s.length), some (.d (.int a)), some (.d (.int (pre.length : Int))), y2], rfl, ?_⟩
    unfold b_law_row_1
    refine w_asg (v := .d (.int (a + 1 + z + w1))) (e_o2 (e_o2 (e_o2 (e_var rfl) e_cst v_add) (e_bi (es_cons (e_o2 (e_var rfl) e_cst v_gt) es_nil) (by rw [b_intB, hze])) v_add) (e_call (es_cons (e_var rfl) (es_cons (e_var rfl) es_nil)) f1) v_add) rfl ?_
    refine w_asg (v := .d (.int (a + 1 + z + w1 + w2))) (e_o2 (e_var rfl) (e_call (es_cons (e_var rfl) (es_cons (e_var rfl) es_nil)) f2) v_add) rfl ?_
    refine w_ex (e_lm (e_var rfl) (atl _ _) (es_cons (e_tup (es_cons (e_var rfl) (es_cons (e_var rfl) es_nil)) rfl) es_nil) (atl _ _) (lm_app (by rw [List.length_map, sizeL]; omega))) ?_
    refine s_done ⟨r ++ [(a + 1 + z + w1, a + 1 + z + w1 + w2)], c2, some (.d (.int (pre.length : Int))), some (.d (.int (a + 1 + z + w1))), a + 1 + z + w1 + w2, fr.app ?_ (by omega), by simp [hrl], ?_, ?_, ?_, rfl⟩
    · by_cases h0 : pre.length = 0
      · refine .inr ⟨List.eq_nil_of_length_eq_zero (by omega), ?_⟩
        have := fr.h0
        omega
      · have := hz2 (by omega)
        exact .inl (by omega)
    · rw [List.length_append, List.length_singleton]
      have : ((pre.length + 1 : Nat) : Int) * (2 * 10 ^ 38 + 10) = (pre.length : Int) * (2 * 10 ^ 38 + 10) + (2 * 10 ^ 38 + 10) := by
        rw [Int.natCast_add, Int.add_mul]
        simp
      omega
    · exact oc2.mono (by simp; omega)
    · rw [List.set_append_right _ _ (by simp)]
      simp [prI]
  · rintro e s1 ⟨r, b', y1, y2, a, fr, hrl, hat, okb, rfl, rfl⟩
    have hN : (List.range v1.toNat).length = v1.toNat := by simp
    rw [hN] at hrl hat okb
    have hmul : (v1.toNat : Int) * (2 * 10 ^ 38 + 10) ≤ 30 * (2 * 10 ^ 38 + 10) := Int.mul_le_mul_of_nonneg_right (by omega) (by decide +kernel)
    have e133 : (30 : Int) * (2 * 10 ^ 38 + 10) < 2 ^ 133 := by decide +kernel
    refine ⟨okGb_nil, w_ret (e_frzL (e_var rfl) (atl _ _) allD_f) ⟨(r, b'), ⟨⟨fr.g, by show (r.length : Int) ≤ m; omega, fun p hp => Int.lt_of_le_of_lt (Int.le_trans (fr.h p hp) (Int.le_trans hat hmul)) e133⟩, okb.mono (by omega)⟩, out_cut ?_ ?_⟩⟩
    · exact Dt.take (Dt.set (Dt.app (Dt.set hd (isDt_bag _)) (Dt.one (isDt_row _))) rfl) _
    · rw [List.set_append_right _ _ (by simp), List.take_append_of_le_length (by simp), List.take_of_length_le (by simp)]
end
end MP.P


/-! L_exactB: what _law_exact of the laws k15 .. k20 tells of what is alike. -/
namespace MP.P
open PySem MP
section
variable {M : Md} {k : Nat} {s : Sto}
inductive San : Nat → PyData → Prop
  | int {n : Nat} (i : Int) : San n (.int i)
  | bool {n : Nat} (b : Bool) : San n (.bool b)
  | str {n : Nat} (b : Str) : San n (.str b)
  | list {n : Nat} {ds : List PyData} : (∀ x ∈ ds, San n x) → ds.length ≤ 1000000 → San (n + 1) (.list ds)
  | tuple {n : Nat} {ds : List PyData} : (∀ x ∈ ds, San n x) → ds.length ≤ 1000000 → San (n + 1) (.tuple ds)
theorem zipdup : ∀ l : List PyData, l.zip l = l.map fun x => (x, x)
  | [] => rfl
  | a :: l => by
    rw [List.zip_cons_cons, zipdup l]
    rfl
theorem san_pr {n : Nat} (p : Int × Int) : San (n + 1) (prI p) := .tuple (fun x hx => by
  rcases List.mem_cons.mp hx with q | q
  · rw [q]; exact .int _
  · have : x = .int p.2 := by simpa using q
    rw [this]; exact .int _) (by simp)
theorem san_row {n : Nat} {r : Row} (h : r.length ≤ 1000000) : San (n + 2) (.list (r.map prI)) := .list (fun x hx => by
  obtain ⟨p, _, rfl⟩ := List.mem_map.mp hx
  exact san_pr p) (by rw [List.length_map]; exact h)
theorem san_two {n : Nat} {a b : PyData} (ha : San n a) (hb : San n b) : San (n + 1) (.tuple [a, b]) := .tuple (fun x hx => by
  rcases List.mem_cons.mp hx with q | q
  · rw [q]; exact ha
  · have : x = b := by simpa using q
    rw [this]; exact hb) (by simp)
theorem m_exact [Has M "_law_exact" d_law_exact] : ∀ {n : Nat} {x : PyData} {k : Nat} {s : Sto}, San n x → n + 1 ≤ k → lev M k "_law_exact" [.d x, .d x] s = some (.d (.bool true), s) := by
  intro n
  induction n with
  | zero =>
    intro x k s h hk
    refine d_clean (by omega) rfl rfl rfl ?_
    cases h with
    | int i =>
      show Wl _ (exB _ b_law_exact [some (.d (.int i)), some (.d (.int i)), none, none] [])
      unfold b_law_exact
      refine w_if (t := false) (s1 := []) (e_o1 (e_var rfl) rfl) (fun h => by cases h) fun _ => ?_
      refine w_if (t := false) (s1 := []) (e_isi (e_var rfl) rfl) (fun h => by cases h) fun _ => ?_
      refine w_ret (s1 := []) (e_bop (b_and (b := true) (e_o2 (e_isi (e_var rfl) rfl) (e_isi (e_var rfl) rfl) rfl) fun _ => b_one (e_o2 (e_var rfl) (e_var rfl) v_eqI))) ⟨by simp⟩
    | bool i =>
      show Wl _ (exB _ b_law_exact [some (.d (.bool i)), some (.d (.bool i)), none, none] [])
      unfold b_law_exact
      refine w_if (t := false) (s1 := []) (e_o1 (e_var rfl) rfl) (fun h => by cases h) fun _ => ?_
      refine w_if (t := false) (s1 := []) (e_isi (e_var rfl) rfl) (fun h => by cases h) fun _ => ?_
      refine w_ret (s1 := []) (e_bop (b_and (b := true) (e_o2 (e_isi (e_var rfl) rfl) (e_isi (e_var rfl) rfl) rfl) fun _ => b_one (e_o2 (e_var rfl) (e_var rfl) v_eqB))) ⟨by simp⟩
    | str i =>
      show Wl _ (exB _ b_law_exact [some (.d (.str i)), some (.d (.str i)), none, none] [])
      unfold b_law_exact
      refine w_if (t := false) (s1 := []) (e_o1 (e_var rfl) rfl) (fun h => by cases h) fun _ => ?_
      refine w_if (t := false) (s1 := []) (e_isi (e_var rfl) rfl) (fun h => by cases h) fun _ => ?_
      refine w_ret (s1 := []) (e_bop (b_and (b := true) (e_o2 (e_isi (e_var rfl) rfl) (e_isi (e_var rfl) rfl) rfl) fun _ => b_one (e_o2 (e_var rfl) (e_var rfl) v_eqS))) ⟨by simp⟩
  | succ n ih =>
    intro x k s h hk
    cases h with
    | int i => exact ih (.int i) (by omega)
    | bool i => exact ih (.bool i) (by omega)
    | str i => exact ih (.str i) (by omega)
    | list hx hl =>
      rename_i ds
      refine d_clean (by omega) rfl rfl rfl ?_
      show Wl _ (exB _ b_law_exact [some (.d (.list ds)), some (.d (.list ds)), none, none] [])
      have c1 : evE (levG M (k - 1)) x_law_exact_1 [some (.d (.list ds)), some (.d (.list ds)), none, none] [] = some (.d (.list (ds.map fun _ => .bool true)), []) := by
        have hz := zipdup ds
        refine e_comp (l := ds) (φ := fun x => Vl.d (.tuple [x, x])) (g := []) (fun _ => .bool true) ?_ okGb_nil (by omega) fun x hx' => ⟨_, rfl, c_no, e_call (es_cons (e_var rfl) (es_cons (e_var rfl) es_nil)) (ih (hx x hx') (by omega))⟩
        have := i_zipL (G := levG M (k - 1)) (a := .var 0) (b := .var 1) (r := [some (.d (.list ds)), some (.d (.list ds)), none, none]) (s := []) (e_var rfl) (e_var rfl)
        rw [hz, List.map_map] at this
        exact this
      unfold b_law_exact
      refine w_if (t := false) (s1 := []) (e_o1 (e_var rfl) rfl) (fun h => by cases h) fun _ => ?_
      refine w_if (t := true) (s1 := []) (e_isi (e_var rfl) rfl) (fun _ => ?_) fun h => by cases h
      refine w_if (t := false) (s1 := []) (e_bop (b_or (b := false) (e_o2 (e_isi (e_var rfl) rfl) (e_isi (e_var rfl) rfl) rfl) fun _ => b_one (b := false) (e_o2 (e_isi (e_var rfl) rfl) (e_isi (e_var rfl) rfl) rfl))) (fun h => by cases h) fun _ => ?_
      refine w_ret (s1 := []) (e_bop (b_and (e_o2 (e_bi (es_cons (e_var rfl) es_nil) b_len_l) (e_bi (es_cons (e_var rfl) es_nil) b_len_l) v_eqI) fun _ => b_one (e_bi (es_cons c1 es_nil) b_allf))) ⟨by simp⟩
    | tuple hx hl =>
      rename_i ds
      refine d_clean (by omega) rfl rfl rfl ?_
      show Wl _ (exB _ b_law_exact [some (.d (.tuple ds)), some (.d (.tuple ds)), none, none] [])
      have c1 : evE (levG M (k - 1)) x_law_exact_1 [some (.d (.tuple ds)), some (.d (.tuple ds)), none, none] [] = some (.d (.list (ds.map fun _ => .bool true)), []) := by
        have hz := zipdup ds
        refine e_comp (l := ds) (φ := fun x => Vl.d (.tuple [x, x])) (g := []) (fun _ => .bool true) ?_ okGb_nil (by omega) fun x hx' => ⟨_, rfl, c_no, e_call (es_cons (e_var rfl) (es_cons (e_var rfl) es_nil)) (ih (hx x hx') (by omega))⟩
        have := i_zipT (G := levG M (k - 1)) (a := .var 0) (b := .var 1) (r := [some (.d (.tuple ds)), some (.d (.tuple ds)), none, none]) (s := []) (e_var rfl) (e_var rfl)
        rw [hz, List.map_map] at this
        exact this
      unfold b_law_exact
      refine w_if (t := false) (s1 := []) (e_o1 (e_var rfl) rfl) (fun h => by cases h) fun _ => ?_
      refine w_if (t := true) (s1 := []) (e_isi (e_var rfl) rfl) (fun _ => ?_) fun h => by cases h
      refine w_if (t := false) (s1 := []) (e_bop (b_or (b := false) (e_o2 (e_isi (e_var rfl) rfl) (e_isi (e_var rfl) rfl) rfl) fun _ => b_one (b := false) (e_o2 (e_isi (e_var rfl) rfl) (e_isi (e_var rfl) rfl) rfl))) (fun h => by cases h) fun _ => ?_
      refine w_ret (s1 := []) (e_bop (b_and (e_o2 (e_bi (es_cons (e_var rfl) es_nil) b_len_t) (e_bi (es_cons (e_var rfl) es_nil) b_len_t) v_eqI) fun _ => b_one (e_bi (es_cons c1 es_nil) b_allf))) ⟨by simp⟩
end
end MP.P


/-! L_flipB: what _law_count, _law_has, _law_flip, _law_turn of the laws k15 .. k22 tell. -/
namespace MP.P
open PySem MP
section
variable {M : Md} {k : Nat} {s : Sto}
theorem m_count [Has M "_law_count" d_law_count] (hk : 1 ≤ k) {r : Row} (hr : r.length ≤ 1000000) : lev M k "_law_count" [.d (.list (r.map prI))] s = some (.d (.int (cnt r)), s) := by
  refine d_clean hk rfl rfl rfl ?_
  show Wl _ (exB _ b_law_count [some (.d (.list (r.map prI))), none, none] [])
  unfold b_law_count
  exact w_ret (s1 := []) (e_bi (es_cons (e_comp (l := r) (φ := fun p => Vl.d (prI p)) (g := []) (fun p => .int (wid p)) (i_row (e_var rfl)) okGb_nil (by omega) fun p hp => ⟨_, rfl, c_no, e_o2 (e_o2 (e_var rfl) (e_var rfl) v_sub) e_cst v_add⟩) es_nil) b_sumf) ⟨rfl⟩
theorem any_filter {α β : Type} {f : α → β} {p : α → Bool} : ∀ l : List α, (!((l.filter p).map f).isEmpty) = l.any p
  | [] => rfl
  | x :: l => by
    rw [List.filter_cons, List.any_cons]
    cases h : p x with
    | true => rfl
    | false =>
      rw [← any_filter (f := f) l]
      rfl
theorem m_has [Has M "_law_has" d_law_has] (hk : 1 ≤ k) {r : Row} {x : Int} (hr : r.length ≤ 1000000) : lev M k "_law_has" [.d (.list (r.map prI)), .d (.int x)] s = some (.d (.bool (hasC r x)), s) := by
  refine d_clean hk rfl rfl rfl ?_
  show Wl _ (exB _ b_law_has [some (.d (.list (r.map prI))), some (.d (.int x)), none, none] [])
  unfold b_law_has
  have hf : okD (.list ((r.filter (inS x)).map fun _ => PyData.int 1)) = true := (Flt.list (n := 0) fun y hy => by
    obtain ⟨z, _, rfl⟩ := List.mem_map.mp hy
    exact Flt.int _).ok (by decide)
  refine w_ret (s1 := []) (e_o2 (e_compF (l := r) (φ := fun p => Vl.d (prI p)) (g := []) (fun _ => .int 1) (inS x) (i_row (e_var rfl)) okGb_nil (by omega) fun p hp => ⟨_, rfl, c_so (e_bop (b_and (e_o2 (e_var rfl) (e_var rfl) v_le) fun _ => b_one (e_o2 (e_var rfl) (e_var rfl) v_le))), fun _ => e_cst⟩) (e_lstT es_nil rfl) (v_neNil rfl hf)) ⟨?_⟩
  rw [any_filter]
  rfl
theorem b_sortedP {v : Vl} {ps : List (Int × Int)} (h : flat s v = some (false, ps.map prI)) : biv .sorted s [v] = some (.d (.list ((sortP ps).map prI))) := by
  show (match flat s v with
    | some (false, xs) => match intsOf xs with
      | some ns => some (Vl.d (.list ((sortI ns).map .int)))
      | none => (pairsOf xs).map fun ps => Vl.d (.list ((sortP ps).map prD))
    | _ => none) = _
  rw [h]
  cases ps with
  | nil =>
    show some (Vl.d (.list ((sortI []).map .int))) = _
    rw [show sortP [] = [] from (sortP_perm []).eq_nil, show sortI [] = [] from (sortI_perm2 []).eq_nil]
    rfl
  | cons p ps =>
    have e : intsOf ((p :: ps).map prI) = none := rfl
    simp only []
    rw [e]
    show (pairsOf ((p :: ps).map prD)).map _ = _
    rw [pairsOf_map]
    rfl
theorem flat_pr {n : Nat} {ps : List (Int × Int)} (h : s[n]? = some (.lst (ps.map fun p => Vl.d (prI p)))) : flat s (.loc n) = some (false, ps.map prI) := by
  unfold flat
  simp only [h, allD_f]
theorem lm_ext {xs : List Vl} {ds : List PyData} (h : xs.length + ds.length ≤ sizeLine) : lmv .extend xs [.d (.list ds)] = some (.d .none, xs ++ ds.map .d) := by
  show (if xs.length + ds.length ≤ sizeLine then some (Vl.d .none, xs ++ ds.map .d) else none) = _
  rw [if_pos h]
theorem cut_len (p : Int) (q : Int × Int) : (cutP p q).length ≤ 2 := by
  unfold cutP
  exact List.length_filter_le _ _
theorem parts_len (p : Int) : ∀ r : Row, (partsR r p).length ≤ 2 * r.length
  | [] => Nat.le_refl _
  | q :: r => by
    have h1 := parts_len p r
    have h2 := cut_len p q
    unfold partsR at *
    rw [List.flatMap_cons, List.length_append, List.length_cons]
    omega
theorem parts_app (p : Int) (r : Row) (q : Int × Int) : partsR (r ++ [q]) p = partsR r p ++ cutP p q := by
  unfold partsR
  rw [List.flatMap_append]
  simp
theorem set_last {α : Type} (A : List α) (z w : α) : (A ++ [z]).set A.length w = A ++ [w] := by
  rw [List.set_append_right _ _ (Nat.le_refl _)]
  simp
theorem ixN_last {n : Nat} : L2.ixN (n + 1) (-1) = some n := by
  unfold L2.ixN
  rw [if_neg (by decide), if_pos (by omega)]
  congr 1
  omega
abbrev lsP (ps : List (Int × Int)) : So := .lst (ps.map fun p => Vl.d (prI p))
theorem m_flipB [Has M "_law_has" d_law_has] [Has M "_law_flip" d_law_flip] (hk : 2 ≤ k) {r : Row} {p : Int} (hr : r.length ≤ 100000) : lev M k "_law_flip" [.d (.list (r.map prI)), .d (.int p)] s = some (.d (.list ((flipF r p).map prI)), s) := by
  refine d_clean (by omega) rfl rfl rfl ?_
  show Wl _ (exB _ b_law_flip [some (.d (.list (r.map prI))), some (.d (.int p)), none, none, none, none, none, none] [])
  unfold b_law_flip
  refine w_asg (e_lstF es_nil) rfl ?_
  apply w_for (l := r) (φ := fun q => Vl.d (prI q)) (g := []) (s1 := [So.lst []]) (fun pre e s1 => ∃ x y z, s1 = [lsP (partsR pre p)] ∧ e = [some (.d (.list (r.map prI))), some (.d (.int p)), some (.loc 0), x, y, z, none, none])
  · exact i_row (e_var rfl)
  · exact ⟨none, none, none, rfl, rfl⟩
  · rintro pre q post e s1 hl ⟨x, y, z, rfl, rfl⟩
    have hpl : pre.length ≤ r.length := by rw [hl]; simp
    refine ⟨okGb_nil, [some (.d (.list (r.map prI))), some (.d (.int p)), some (.loc 0), some (.d (.int q.1)), some (.d (.int q.2)), z, none, none], rfl, ?_⟩
    unfold b_law_flip_2
    refine w_asg (v := .d (.list ([(q.1, min q.2 (p - 1)), (max q.1 (p + 1), q.2)].map prI))) (s1 := [lsP (partsR pre p)]) (e_lstT (es_cons (e_tup (es_cons (e_var rfl) (es_cons (e_bi (es_cons (e_var rfl) (es_cons (e_o2 (e_var rfl) e_cst v_sub) es_nil)) b_min2) es_nil)) rfl) (es_cons (e_tup (es_cons (e_bi (es_cons (e_var rfl) (es_cons (e_o2 (e_var rfl) e_cst v_add) es_nil)) b_max2) (es_cons (e_var rfl) es_nil)) rfl) es_nil)) rfl) rfl ?_
    have cm : evE (levG M (k - 1)) x_law_flip_1 [some (.d (.list (r.map prI))), some (.d (.int p)), some (.loc 0), some (.d (.int q.1)), some (.d (.int q.2)), some (.d (.list ([(q.1, min q.2 (p - 1)), (max q.1 (p + 1), q.2)].map prI))), none, none] [lsP (partsR pre p)] = some (.d (.list ((cutP p q).map prI)), [lsP (partsR pre p)]) :=
      e_compF (l := [(q.1, min q.2 (p - 1)), (max q.1 (p + 1), q.2)]) (φ := fun t => Vl.d (prI t)) (g := []) prI (fun t => decide (t.1 ≤ t.2)) (i_row (e_var rfl)) okGb_nil (by simp) fun t _ => ⟨_, rfl, c_so (e_o2 (e_o2 (e_var rfl) e_cst rfl) (e_o2 (e_var rfl) e_cst rfl) v_le), fun _ => e_var rfl⟩
    have l1 := parts_len p pre
    have l2 := cut_len p q
    refine w_ex (e_lm (zs := (partsR pre p).map fun p => Vl.d (prI p)) (e_var rfl) rfl (es_cons cm es_nil) rfl (lm_ext (by rw [List.length_map, List.length_map, sizeL]; omega))) ?_
    refine s_done ⟨_, _, _, ?_, rfl⟩
    show [So.lst _] = _
    rw [parts_app, lsP, List.map_append, List.map_map]
    rfl
  · rintro e s1 ⟨x, y, z, rfl, rfl⟩
    refine ⟨okGb_nil, ?_⟩
    have l1 := parts_len p r
    have hpf : (partsF r p).length ≤ 200001 := by
      unfold partsF
      rw [List.length_append]
      split
      · simp
        omega
      · simp
        omega
    have tail : ∀ x y, Wl (fun f _ => OutD (.list ((flipF r p).map prI)) f) (exB (levG M (k - 1)) (.cons (.asg (.name 6) (.lst false .nil))
 (.cons (.for_ (.tup (.cons (.name 3) (.cons (.name 4) .nil))) (.seq (.bi .sorted (.cons (.var 2) .nil))) b_law_flip_3)
 (.cons (.ret (.frz (.var 6)))
 .nil))) [some (.d (.list (r.map prI))), some (.d (.int p)), some (.loc 0), x, y, z, none, none] [lsP (partsF r p)]) := fun x y => by
      refine w_asg (e_lstF es_nil) rfl ?_
      show Wl _ (exB _ _ [some (.d (.list (r.map prI))), some (.d (.int p)), some (.loc 0), x, y, z, some (.loc 1), none] [lsP (partsF r p), .lst []])
      apply w_for (l := sortP (partsF r p)) (φ := fun q => Vl.d (prI q)) (g := []) (s1 := [lsP (partsF r p), .lst []]) (fun pre e s1 => ∃ x y, s1 = [lsP (partsF r p), lsP (mergeF pre)] ∧ e = [some (.d (.list (r.map prI))), some (.d (.int p)), some (.loc 0), x, y, z, some (.loc 1), none])
      · exact i_row (e_bi (es_cons (e_var rfl) es_nil) (b_sortedP (flat_pr rfl)))
      · exact ⟨x, y, rfl, rfl⟩
      · rintro pre q post e s1 hl ⟨x, y, rfl, rfl⟩
        have hpl : pre.length ≤ 200001 := by
          have h1 := congrArg List.length hl
          rw [(sortP_perm _).length_eq, List.length_append] at h1
          omega
        have hml := mergeF_len pre
        refine ⟨okGb_nil, [some (.d (.list (r.map prI))), some (.d (.int p)), some (.loc 0), some (.d (.int q.1)), some (.d (.int q.2)), z, some (.loc 1), none], rfl, ?_⟩
        unfold b_law_flip_3
        rw [mergeF_app]
        have hne : evE (levG M (k - 1)) (.o2 .ne (.var 6) (.lst true .nil)) [some (.d (.list (r.map prI))), some (.d (.int p)), some (.loc 0), some (.d (.int q.1)), some (.d (.int q.2)), z, some (.loc 1), none] [lsP (partsF r p), lsP (mergeF pre)] = some (.d (.bool (!((mergeF pre).map prI).isEmpty)), [lsP (partsF r p), lsP (mergeF pre)]) :=
          e_o2 (e_var rfl) (e_lstT es_nil rfl) (v_neNil (dat_loc rfl allD_f) flt_row)
        have app : Wl (fun f s' => match f with
            | .nx r' => ∃ x y, s' = [lsP (partsF r p), lsP (mergeF pre ++ [q])] ∧ r' = [some (.d (.list (r.map prI))), some (.d (.int p)), some (.loc 0), x, y, z, some (.loc 1), none]
            | .ct r' => ∃ x y, s' = [lsP (partsF r p), lsP (mergeF pre ++ [q])] ∧ r' = [some (.d (.list (r.map prI))), some (.d (.int p)), some (.loc 0), x, y, z, some (.loc 1), none]
            | .bk r' => Wl (fun f _ => OutD (.list ((flipF r p).map prI)) f) (exB (levG M (k - 1)) (.cons (.ret (.frz (.var 6))) .nil) r' s')
            | .rt v => OutD (.list ((flipF r p).map prI)) (.rt v)) (exB (levG M (k - 1)) (.cons (.ex (.lm .append (.var 6) (.cons (.tup (.cons (.var 3) (.cons (.var 4) .nil))) .nil))) .nil) [some (.d (.list (r.map prI))), some (.d (.int p)), some (.loc 0), some (.d (.int q.1)), some (.d (.int q.2)), z, some (.loc 1), none] [lsP (partsF r p), lsP (mergeF pre)]) := by
          refine w_ex (e_lm (zs := (mergeF pre).map fun p => Vl.d (prI p)) (xs := (mergeF pre).map fun p => Vl.d (prI p)) (e_var rfl) rfl (es_cons (e_tup (es_cons (e_var rfl) (es_cons (e_var rfl) es_nil)) rfl) es_nil) rfl (lm_app (by rw [List.length_map, sizeL]; omega))) ?_
          refine s_done ⟨_, _, ?_, rfl⟩
          show [lsP (partsF r p), So.lst _] = _
          rw [lsP, lsP, List.map_append]
          rfl
        cases hm : (mergeF pre).getLast? with
        | none =>
          have e0 := List.getLast?_eq_none_iff.mp hm
          have e1 : stepM (mergeF pre) q = mergeF pre ++ [q] := by
            unfold stepM
            rw [hm]
          rw [e1]
          refine w_if (t := false) (e_bop (b_andF ?_)) (fun h => by cases h) fun _ => app
          rw [hne, e0]
          rfl
        | some w =>
          obtain ⟨A, hA⟩ : ∃ A, mergeF pre = A ++ [w] := by
            have hne : mergeF pre ≠ [] := fun h => by rw [h] at hm; cases hm
            refine ⟨(mergeF pre).dropLast, ?_⟩
            rw [List.getLast?_eq_getLast hne] at hm
            rw [← Option.some.inj hm]
            exact (List.dropLast_concat_getLast hne).symm
          have hlast : ∀ t : Sto, t[1]? = some (lsP (mergeF pre)) → o2v .idx t (.loc 1) (.d (.int (-1))) = some (.d (prI w)) := fun t ht => by
            rw [v_ixP ht, atI_last, List.getLast?_map, hm]
            rfl
          have h1 : evE (levG M (k - 1)) (.o2 .idx (.var 6) (.o1 .neg (.cst (.int 1)))) [some (.d (.list (r.map prI))), some (.d (.int p)), some (.loc 0), some (.d (.int q.1)), some (.d (.int q.2)), z, some (.loc 1), none] [lsP (partsF r p), lsP (mergeF pre)] = some (.d (prI w), [lsP (partsF r p), lsP (mergeF pre)]) :=
            e_o2 (e_var rfl) (e_o1 e_cst rfl) (hlast _ rfl)
          refine w_if (t := decide (w.2 + 1 = q.1)) (s1 := [lsP (partsF r p), lsP (mergeF pre)]) (e_bop (b_andS ?_ (b_one (e_o2 (e_o2 (e_o2 h1 e_cst rfl) e_cst v_add) (e_var rfl) v_eqI)))) (fun h => ?_) fun h => ?_
          · rw [hne, hA, List.map_append]
            have : ((A.map prI) ++ [w].map prI).isEmpty = false := by
              cases A <;> rfl
            rw [this]
            rfl
          · have e1 : stepM (mergeF pre) q = A ++ [(w.1, q.2)] := by
              unfold stepM
              rw [hm]
              simp only []
              rw [if_pos (of_decide_eq_true h), hA, List.dropLast_concat]
            rw [e1]
            show Wl _ (exB _ (.cons _ .nil) _ _)
            refine w_asgI (n := 1) (k := -1) (v := .d (prI (w.1, q.2))) (xs := (mergeF pre).map fun p => Vl.d (prI p)) (j := A.length) (e_tup (es_cons (e_o2 h1 e_cst rfl) (es_cons (e_var rfl) es_nil)) rfl) (e_var rfl) (e_o1 e_cst rfl) rfl ?_ ?_
            · rw [List.length_map, hA, List.length_append]
              exact ixN_last
            · refine s_done ⟨_, _, ?_, rfl⟩
              show [lsP (partsF r p), So.lst _] = _
              rw [hA, List.map_append]
              have : A.length = (A.map fun p => Vl.d (prI p)).length := by rw [List.length_map]
              rw [this]
              show [lsP (partsF r p), So.lst (((A.map fun p => Vl.d (prI p)) ++ [Vl.d (prI w)]).set _ _)] = _
              rw [set_last, lsP, lsP, List.map_append]
              rfl
          · have e1 : stepM (mergeF pre) q = mergeF pre ++ [q] := by
              unfold stepM
              rw [hm]
              simp only []
              rw [if_neg (of_decide_eq_false h)]
            rw [e1]
            exact app
      · rintro e s1 ⟨x, y, rfl, rfl⟩
        exact ⟨okGb_nil, w_ret (e_frzL (e_var rfl) rfl allD_f) ⟨rfl⟩⟩
    refine w_if (t := decide (0 < p) && !hasC r p) (s1 := [lsP (partsR r p)]) (e_bop (b_and (e_o2 (e_var rfl) e_cst v_gt) fun _ => b_one (e_not (e_call (es_cons (e_var rfl) (es_cons (e_var rfl) es_nil)) (m_has (by omega) (by omega)))))) (fun h => ?_) fun h => ?_
    · show Wl _ (exB _ (.cons _ _) _ _)
      refine w_ex (e_lm (zs := (partsR r p).map fun p => Vl.d (prI p)) (xs := (partsR r p).map fun p => Vl.d (prI p)) (e_var rfl) rfl (es_cons (e_tup (es_cons (e_var rfl) (es_cons (e_var rfl) es_nil)) rfl) es_nil) rfl (lm_app (by rw [List.length_map, sizeL]; omega))) ?_
      have e1 : [lsP (partsF r p)] = ([lsP (partsR r p)] : Sto).set 0 (.lst (((partsR r p).map fun p => Vl.d (prI p)) ++ [Vl.d (.tuple [.int p, .int p])])) := by
        show _ = [So.lst _]
        unfold partsF
        rw [h, if_pos rfl, lsP, List.map_append]
        rfl
      rw [← e1]
      exact tail _ _
    · have e1 : lsP (partsR r p) = lsP (partsF r p) := by
        unfold partsF
        rw [h, if_neg Bool.false_ne_true, List.append_nil]
      rw [e1]
      exact tail _ _
end
end MP.P

/-! L_cons: the module's constants. -/
namespace MP.P
open PySem MP
class Cons (M : Md) (x : Str) (d : outParam PyData) : Prop where
  h : M.con x = some d
end MP.P


/-! L_turnB: what is_pair, plain_pair, need_who, turned_by, turn tell. -/
namespace MP.P
open PySem MP
section
variable {M : Md} {k : Nat} {s : Sto}
/-- a coin turned over, of place 0 none -/
def overZ (r : Row) (p : Int) : Row := if p = 0 then r else over r p
theorem overZ_good {r : Row} (g : Good r) {p : Int} (hp : 0 ≤ p) : Good (overZ r p) := by
  unfold overZ
  split
  · exact g
  · exact over_good g (by omega)
theorem over_lenB {r : Row} (g : Good r) (p : Int) : (over r p).length ≤ r.length + 1 := by
  unfold over
  rw [rowE_prs, List.length_map]
  have h1 := prs_len (unl (edg r) [p, p + 1])
  have h2 := unl_len_le (nodup_of_lt (edg_asc g).1) (nodup_of_lt (pair_asc p))
  have h3 := edg_len r
  simp at h2
  omega
theorem overZ_len {r : Row} (g : Good r) (p : Int) : (overZ r p).length ≤ r.length + 1 := by
  unfold overZ
  split
  · omega
  · exact over_lenB g p
theorem has_zero {r : Row} (g : Good r) : hasC r 0 = false := by
  unfold hasC
  rw [List.any_eq_false]
  intro p hp
  have := g.s p hp
  unfold inS
  simp
  omega
theorem flip_zero {r : Row} (g : Good r) : flipF r 0 = r := by
  obtain ⟨h1, h2, h3, h4⟩ := partsR_ok 0 g
  have e : partsF r 0 = partsR r 0 := by
    unfold partsF
    rw [decide_eq_false (by omega), Bool.false_and]
    simp
  obtain ⟨s1, s2, s3⟩ := sort_apart h1 fun t ht => ⟨(h2 t ht).1, (h2 t ht).2.1⟩
  obtain ⟨m1, m2, _⟩ := merge_ok _ s1 s2
  unfold flipF
  rw [e]
  refine good_ext m1 g fun x => ?_
  rw [m2, s3, h4]
  by_cases hx : x = 0
  · rw [hx, has_zero g]
    rfl
  · rw [decide_eq_false hx]
    simp
theorem flip_overZ {r : Row} (g : Good r) {p : Int} (hp : 0 ≤ p) : flipF r p = overZ r p := by
  unfold overZ
  by_cases h : p = 0
  · rw [if_pos h, h]
    exact flip_zero g
  · rw [if_neg h]
    exact flip_over g (by omega)
/-- two rows as these laws hold them -/
abbrev tw2 (a b : Row) : PyData := .tuple [.list (a.map prI), .list (b.map prI)]
def whoS (w : Bool) : Str := if w then ("one" : Str) else ("other" : Str)
theorem m_over [Has M "is_whole" d_is_whole] [Has M "is_stretch" d_is_stretch] [Has M "is_row" d_is_row] [Has M "plain" d_plain] [Has M "need_row" d_need_row] [Has M "edges_of" d_edges_of] [Has M "row_by" d_row_by] [Has M "unlike" d_unlike] [Has M "turned_over" d_turned_over]
    (hk : 6 ≤ k) {r : Row} {p : Int} (hr : r.length ≤ 100000) (g : Good r) (hp : 0 ≤ p) : lev M k "turned_over" [.d (.list (r.map prI)), .d (.int p)] s = some (.d (.list ((overZ r p).map prI)), s) := by
  unfold overZ
  by_cases h : p = 0
  · rw [if_pos h, h]
    refine d_clean (by omega) rfl rfl rfl ?_
    show Wl _ (exB _ b_turned_over [some (.d (.list (r.map prI))), some (.d (.int 0)), none] [])
    unfold b_turned_over
    have nr := m_need_row (M := M) (k := k - 1) (s := []) (t := false) (m := r.map fun p => (true, p)) (by omega) (by rw [List.length_map]; omega) (by rw [rowOf_row]; exact isRow_of g)
    rw [mr_row, rowOf_row] at nr
    refine w_asg (s1 := []) (e_call (es_cons (e_var rfl) es_nil) nr) rfl ?_
    refine w_if (s1 := []) (e_not (e_call (es_cons (e_var rfl) (es_cons e_cst es_nil)) (m_is_whole (by omega)))) (fun h => ?_) fun _ => ?_
    · simp at h
    refine w_if (s1 := []) (e_o2 (e_var rfl) e_cst v_eqI) (fun h => ?_) fun h => ?_
    · exact w_ret (s1 := []) (e_var rfl) ⟨rfl⟩
    · simp at h
  · rw [if_neg h]
    have := m_turned_over (M := M) (k := k) (s := s) (t := false) (m := r.map fun p => (true, p)) (p := p) hk (by rw [List.length_map]; exact hr) (by rw [rowOf_row]; exact g) (by omega)
    rw [mr_row, rowOf_row] at this
    exact this
theorem isi_sq {t : Bool} {ds : List PyData} : isiv s (.d (sq t ds)) [.list, .tuple] = some (.d (.bool true)) := by cases t <;> rfl
theorem len_sq {t : Bool} {ds : List PyData} : biv .len s [.d (sq t ds)] = some (.d (.int ds.length)) := by
  cases t
  · exact b_len_l
  · exact b_len_t
theorem ix0_sq {t : Bool} {a b : PyData} : o2v .idx s (.d (sq t [a, b])) (.d (.int 0)) = some (.d a) := by cases t <;> rfl
theorem ix1_sq {t : Bool} {a b : PyData} : o2v .idx s (.d (sq t [a, b])) (.d (.int 1)) = some (.d b) := by cases t <;> rfl
theorem m_is_pair [Has M "is_whole" d_is_whole] [Has M "is_stretch" d_is_stretch] [Has M "is_row" d_is_row] [Has M "is_pair" d_is_pair] (hk : 4 ≤ k) {t t1 t2 : Bool} {m1 m2 : MRow} (h1 : m1.length ≤ 1000000) (h2 : m2.length ≤ 1000000) (g1 : Good (rowOf m1)) (g2 : Good (rowOf m2)) :
    lev M k "is_pair" [.d (sq t [mr t1 m1, mr t2 m2])] s = some (.d (.bool true), s) := by
  refine d_clean (by omega) rfl rfl rfl ?_
  show Wl _ (exB _ b_is_pair [some (.d (sq t [mr t1 m1, mr t2 m2]))] [])
  unfold b_is_pair
  have q1 := m_is_row (M := M) (k := k - 1) (s := []) (t := t1) (m := m1) (by omega) (by omega)
  have q2 := m_is_row (M := M) (k := k - 1) (s := []) (t := t2) (m := m2) (by omega) (by omega)
  rw [isRow_of g1] at q1
  rw [isRow_of g2] at q2
  exact w_ret (s1 := []) (v := .d (.bool true)) (e_bop (b_andS (e_isi (e_var rfl) isi_sq) (b_andS (e_o2 (e_bi (es_cons (e_var rfl) es_nil) len_sq) e_cst (by rw [v_eqI]; rfl)) (b_andS (e_call (es_cons (e_o2 (e_var rfl) e_cst ix0_sq) es_nil) q1) (b_one (e_call (es_cons (e_o2 (e_var rfl) e_cst ix1_sq) es_nil) q2)))))) ⟨rfl⟩
theorem m_plain_pair [Has M "is_whole" d_is_whole] [Has M "is_stretch" d_is_stretch] [Has M "is_row" d_is_row] [Has M "is_pair" d_is_pair] [Has M "plain" d_plain] [Has M "plain_pair" d_plain_pair] (hk : 5 ≤ k) {t t1 t2 : Bool} {m1 m2 : MRow} (h1 : m1.length ≤ 1000000) (h2 : m2.length ≤ 1000000) (g1 : Good (rowOf m1)) (g2 : Good (rowOf m2)) :
    lev M k "plain_pair" [.d (sq t [mr t1 m1, mr t2 m2])] s = some (.d (tw2 (rowOf m1) (rowOf m2)), s) := by
  refine d_clean (by omega) rfl rfl rfl ?_
  show Wl _ (exB _ b_plain_pair [some (.d (sq t [mr t1 m1, mr t2 m2]))] [])
  unfold b_plain_pair
  refine w_if (t := !true) (s1 := []) (e_not (e_call (es_cons (e_var rfl) es_nil) (m_is_pair (by omega) h1 h2 g1 g2))) (fun h => by cases h) fun _ => ?_
  exact w_ret (s1 := []) (e_tup (es_cons (e_call (es_cons (e_o2 (e_var rfl) e_cst ix0_sq) es_nil) (m_plain (by omega) (by omega))) (es_cons (e_call (es_cons (e_o2 (e_var rfl) e_cst ix1_sq) es_nil) (m_plain (by omega) (by omega))) es_nil)) rfl) ⟨rfl⟩
theorem v_ninT2 {x a b : Str} : o2v .nin s (.d (.str x)) (.d (.tuple [.str a, .str b])) = some (.d (.bool (!((a == x) || (b == x))))) := by
  show some (Vl.d (.bool (!([PyData.str a, .str b].any fun y => PyData.eqv y (.str x))))) = _
  congr 4
  show ((PyData.eqv (.str a) (.str x)) || ((PyData.eqv (.str b) (.str x)) || false)) = _
  rw [Bool.or_false]
  rfl
theorem who_in (w : Bool) : ((("one" : Str) == whoS w) || (("other" : Str) == whoS w)) = true := by
  cases w <;> decide +kernel
theorem who_one (w : Bool) : (whoS w == ("one" : Str)) = w := by
  cases w <;> decide +kernel
abbrev whosD : PyData := .tuple [.str "one", .str "other"]
theorem m_need_who [Has M "need_who" d_need_who] [c : Cons M "WHOS" whosD] (hk : 1 ≤ k) {w : Bool} : lev M k "need_who" [.d (.str (whoS w))] s = some (.d .none, s) := by
  refine d_clean (by omega) rfl rfl rfl ?_
  show Wl _ (exB _ b_need_who [some (.d (.str (whoS w)))] [])
  unfold b_need_who
  refine w_if (t := false) (s1 := []) (e_bop (b_or (b := false) (e_not (b := true) (e_isi (e_var rfl) rfl)) fun _ => b_one (e_o2 (e_var rfl) (e_glb (by rw [levG_con]; exact c.h)) (by rw [v_ninT2, who_in]; rfl)))) (fun h => by cases h) fun _ => ?_
  exact s_done ⟨rfl⟩
/-- behind a turn -/
def turn1 (a b : Row) (w : Bool) : Row := if w then overZ a (cnt b) else a
def turn2 (a b : Row) (w : Bool) : Row := if w then b else overZ b (cnt a)
abbrev onE : PyData := .str "one"
theorem m_turned_by [Has M "is_whole" d_is_whole] [Has M "is_stretch" d_is_stretch] [Has M "is_row" d_is_row] [Has M "plain" d_plain] [Has M "need_row" d_need_row] [Has M "edges_of" d_edges_of] [Has M "row_by" d_row_by] [Has M "unlike" d_unlike] [Has M "turned_over" d_turned_over] [Has M "heads" d_heads] [Has M "turned_by" d_turned_by] [c : Cons M "ONE" onE]
    (hk : 7 ≤ k) {a b : Row} {w : Bool} (ha : a.length ≤ 100000) (hb : b.length ≤ 100000) (ga : Good a) (gb : Good b) : lev M k "turned_by" [.d (tw2 a b), .d (.str (whoS w))] s = some (.d (tw2 (turn1 a b w) (turn2 a b w)), s) := by
  refine d_clean (by omega) rfl rfl rfl ?_
  show Wl _ (exB _ b_turned_by [some (.d (tw2 a b)), some (.d (.str (whoS w))), none, none] [])
  unfold b_turned_by
  have hh : ∀ {r : Row}, r.length ≤ 100000 → Good r → lev M (k - 1) "heads" [.d (.list (r.map prI))] [] = some (.d (.int (cnt r)), []) := fun {r} hr g => by
    have := m_heads (M := M) (k := k - 1) (s := []) (t := false) (m := r.map fun p => (true, p)) (by omega) (by rw [List.length_map]; omega) (by rw [rowOf_row]; exact g)
    rw [mr_row, rowOf_row] at this
    exact this
  have hp : ∀ {r : Row}, r.length ≤ 100000 → lev M (k - 1) "plain" [.d (.list (r.map prI))] [] = some (.d (.list (r.map prI)), []) := fun {r} hr => by
    have := m_plain (M := M) (k := k - 1) (s := []) (t := false) (m := r.map fun p => (true, p)) (by omega) (by rw [List.length_map]; omega)
    rw [mr_row, rowOf_row] at this
    exact this
  refine w_asg (s1 := []) (r1 := [some (.d (tw2 a b)), some (.d (.str (whoS w))), some (.d (.list (a.map prI))), some (.d (.list (b.map prI)))]) (e_var rfl) rfl ?_
  refine w_if (s1 := []) (e_o2 (e_var rfl) (e_glb (by rw [levG_con]; exact c.h)) v_eqS) (fun h => ?_) fun h => ?_
  · rw [who_one] at h
    subst h
    exact w_ret (s1 := []) (e_tup (es_cons (e_call (es_cons (e_var rfl) (es_cons (e_call (es_cons (e_var rfl) es_nil) (hh hb gb)) es_nil)) (m_over (by omega) ha ga (cnt_nn gb))) (es_cons (e_call (es_cons (e_var rfl) es_nil) (hp hb)) es_nil)) rfl) ⟨rfl⟩
  · rw [who_one] at h
    subst h
    exact w_ret (s1 := []) (e_tup (es_cons (e_call (es_cons (e_var rfl) es_nil) (hp ha)) (es_cons (e_call (es_cons (e_var rfl) (es_cons (e_call (es_cons (e_var rfl) es_nil) (hh ha ga)) es_nil)) (m_over (by omega) hb gb (cnt_nn ga))) es_nil)) rfl) ⟨rfl⟩
theorem m_lturn [Has M "_law_count" d_law_count] [Has M "_law_has" d_law_has] [Has M "_law_flip" d_law_flip] [Has M "_law_turn" d_law_turn] (hk : 3 ≤ k) {a b : Row} {w : Bool} (ha : a.length ≤ 100000) (hb : b.length ≤ 100000) (ga : Good a) (gb : Good b) : lev M k "_law_turn" [.d (tw2 a b), .d (.str (whoS w))] s = some (.d (tw2 (turn1 a b w) (turn2 a b w)), s) := by
  refine d_clean (by omega) rfl rfl rfl ?_
  show Wl _ (exB _ b_law_turn [some (.d (tw2 a b)), some (.d (.str (whoS w))), none, none] [])
  unfold b_law_turn
  refine w_asg (s1 := []) (r1 := [some (.d (tw2 a b)), some (.d (.str (whoS w))), some (.d (.list (a.map prI))), some (.d (.list (b.map prI)))]) (e_var rfl) rfl ?_
  refine w_if (s1 := []) (e_o2 (e_var rfl) e_cst v_eqS) (fun h => ?_) fun h => ?_
  · rw [who_one] at h
    subst h
    refine w_ret (s1 := []) (e_tup (es_cons (e_call (es_cons (e_var rfl) (es_cons (e_call (es_cons (e_var rfl) es_nil) (m_count (by omega) (by omega))) es_nil)) (m_flipB (by omega) ha)) (es_cons (e_var rfl) es_nil)) rfl) ⟨?_⟩
    rw [flip_overZ ga (cnt_nn gb)]
    rfl
  · rw [who_one] at h
    subst h
    refine w_ret (s1 := []) (e_tup (es_cons (e_var rfl) (es_cons (e_call (es_cons (e_var rfl) (es_cons (e_call (es_cons (e_var rfl) es_nil) (m_count (by omega) (by omega))) es_nil)) (m_flipB (by omega) hb)) es_nil)) rfl) ⟨?_⟩
    rw [flip_overZ gb (cnt_nn ga)]
    rfl
theorem turn1_good {a b : Row} (ga : Good a) (gb : Good b) (w : Bool) : Good (turn1 a b w) := by
  unfold turn1
  split
  · exact overZ_good ga (cnt_nn gb)
  · exact ga
theorem turn2_good {a b : Row} (ga : Good a) (gb : Good b) (w : Bool) : Good (turn2 a b w) := by
  unfold turn2
  split
  · exact gb
  · exact overZ_good gb (cnt_nn ga)
theorem turn1_len {a b : Row} (ga : Good a) (w : Bool) : (turn1 a b w).length ≤ a.length + 1 := by
  unfold turn1
  split
  · exact overZ_len ga _
  · omega
theorem turn2_len {a b : Row} (gb : Good b) (w : Bool) : (turn2 a b w).length ≤ b.length + 1 := by
  unfold turn2
  split
  · omega
  · exact overZ_len gb _
theorem san_tw {a b : Row} (ha : a.length ≤ 1000000) (hb : b.length ≤ 1000000) : San 3 (tw2 a b) := san_two (san_row ha) (san_row hb)
end
end MP.P

/-! W_turnB: plain laws of turns. -/
namespace MP.P
open PySem MP
theorem cnt_le_aux {x : Int} : ∀ {r : Row} {lo : Int}, Good r → Within r x → (∀ q ∈ r, lo ≤ q.1) → lo - 1 ≤ x → cnt r ≤ x - lo + 1
  | [], lo, _, _, _, h => by
    show (0 : Int) ≤ _
    omega
  | p :: r, lo, g, w, h, _ => by
    have h1 := h p (by simp)
    have h2 := w p (by simp)
    have ho := (List.pairwise_cons.mp g.o).1
    have ih := cnt_le_aux (r := r) (lo := p.2 + 1) (x := x) (Good.suf (a := [p]) g) (fun q hq => w q (List.mem_cons_of_mem _ hq)) (fun q hq => by have := ho q hq; omega) (by omega)
    rw [cnt_cons]
    unfold wid
    omega
theorem cnt_le {r : Row} (g : Good r) {x : Int} (h0 : 0 ≤ x) (h : Within r x) : cnt r ≤ x := by
  have := cnt_le_aux (lo := 1) g h (fun q hq => (g.s q hq).1) (by omega)
  omega
def moreC (r : Row) (p : Int) : Int := if hasC r p then -1 else 1
theorem cnt_overW {r : Row} (g : Good r) {n p : Int} (h : Within r n) (h0 : 0 ≤ n) (hp : 1 ≤ p) (hpn : p ≤ n) : cnt (over r p) = cnt r + moreC r p := by
  obtain ⟨m, rfl⟩ : ∃ m : Nat, n = (m : Int) := ⟨n.toNat, by omega⟩
  have wo : Within (over r p) (m : Int) := fun q hq => by
    have := over_le g h q hq
    omega
  rw [cnt_rsum (over_good g hp) wo, cnt_rsum g h, over_rsum one g hp, if_pos hpn]
  unfold moreC one
  cases hasC r p <;> simp <;> omega
theorem sums_overW {r : Row} (g : Good r) {n p : Int} (h : Within r n) (h0 : 0 ≤ n) (hp : 1 ≤ p) (hpn : p ≤ n) : sums (over r p) = sums r + moreC r p * p := by
  obtain ⟨m, rfl⟩ : ∃ m : Nat, n = (m : Int) := ⟨n.toNat, by omega⟩
  have wo : Within (over r p) (m : Int) := fun q hq => by
    have := over_le g h q hq
    omega
  have h1 := sums_dbl r
  have h2 := sums_dbl (over r p)
  have h3 := over_rsum two g hp m
  rw [← dbl_rsum (over_good g hp) wo, ← dbl_rsum g h, if_pos hpn] at h3
  have ts := two_step (p - 1)
  have e1 : p - 1 + 1 = p := by omega
  rw [e1] at ts
  unfold moreC
  cases hh : hasC r p with
  | true =>
    rw [hh] at h3
    simp only [if_true] at h3 ⊢
    omega
  | false =>
    rw [hh] at h3
    simp only [Bool.false_eq_true, if_false] at h3 ⊢
    omega
theorem over_ne {r : Row} (g : Good r) {p : Int} : over r p ≠ r := fun h => by
  have := over_has g p p
  rw [h] at this
  revert this
  cases hasC r p <;> simp
theorem cnt_zero {r : Row} (g : Good r) : cnt r = 0 ↔ r = [] := by
  constructor
  · intro h
    cases r with
    | nil => rfl
    | cons p r =>
      rw [cnt_cons] at h
      have h1 := cnt_nn (Good.suf (a := [p]) g)
      have h2 := g.s p (by simp)
      unfold wid at h
      omega
  · rintro rfl
    rfl
theorem overZ_overZ {r : Row} (g : Good r) {p : Int} (hp : 0 ≤ p) : overZ (overZ r p) p = r := by
  unfold overZ
  by_cases h : p = 0
  · rw [if_pos h, if_pos h]
  · rw [if_neg h, if_neg h]
    exact over_over g (by omega)
/-- a pair behind a turn -/
def stepP (p : Row × Row) (w : Bool) : Row × Row := (turn1 p.1 p.2 w, turn2 p.1 p.2 w)
/-- a pair as it should be: places to n -/
structure PairOk (n : Int) (p : Row × Row) : Prop where
  a : Good p.1
  b : Good p.2
  wa : Within p.1 n
  wb : Within p.2 n
  h0 : 0 ≤ n
theorem overZ_in {r : Row} (g : Good r) {n p : Int} (h : Within r n) (hp : p ≤ n) : Within (overZ r p) n := by
  unfold overZ
  split
  · exact h
  · intro q hq
    have := over_le g h q hq
    omega
theorem pair_step {n : Int} {p : Row × Row} (h : PairOk n p) (w : Bool) : PairOk n (stepP p w) := by
  refine ⟨turn1_good h.a h.b w, turn2_good h.a h.b w, ?_, ?_, h.h0⟩
  · show Within (turn1 p.1 p.2 w) n
    unfold turn1
    split
    · exact overZ_in h.a h.wa (cnt_le h.b h.h0 h.wb)
    · exact h.wa
  · show Within (turn2 p.1 p.2 w) n
    unfold turn2
    split
    · exact h.wb
    · exact overZ_in h.b h.wb (cnt_le h.a h.h0 h.wa)
theorem step_step {n : Int} {p : Row × Row} (h : PairOk n p) (w : Bool) : stepP (stepP p w) w = p := by
  obtain ⟨a, b⟩ := p
  cases w with
  | true =>
    show (overZ (overZ a (cnt b)) (cnt b), b) = (a, b)
    rw [overZ_overZ h.a (cnt_nn h.b)]
  | false =>
    show (a, overZ (overZ b (cnt a)) (cnt a)) = (a, b)
    rw [overZ_overZ h.b (cnt_nn h.a)]
def keptP (p : Row × Row) : Int := sums p.1 + sums p.2 - cnt p.1 * cnt p.2
theorem kept_one {n : Int} {a : Row} {c : Int} (g : Good a) (w : Within a n) (h0 : 0 ≤ n) (c0 : 0 ≤ c) (cn : c ≤ n) : sums (overZ a c) - cnt (overZ a c) * c = sums a - cnt a * c := by
  unfold overZ
  by_cases h : c = 0
  · rw [if_pos h]
  · rw [if_neg h, cnt_overW g w h0 (by omega) cn, sums_overW g w h0 (by omega) cn, Int.add_mul]
    omega
theorem kept_step {n : Int} {p : Row × Row} (h : PairOk n p) (w : Bool) : keptP (stepP p w) = keptP p := by
  obtain ⟨a, b⟩ := p
  cases w with
  | true =>
    show sums (overZ a (cnt b)) + sums b - cnt (overZ a (cnt b)) * cnt b = sums a + sums b - cnt a * cnt b
    have := kept_one h.a h.wa h.h0 (cnt_nn h.b) (cnt_le h.b h.h0 h.wb)
    simp only at this
    omega
  | false =>
    show sums a + sums (overZ b (cnt a)) - cnt a * cnt (overZ b (cnt a)) = sums a + sums b - cnt a * cnt b
    have := kept_one h.b h.wb h.h0 (cnt_nn h.a) (cnt_le h.a h.h0 h.wa)
    simp only at this
    rw [Int.mul_comm (cnt a), Int.mul_comm (cnt a)]
    omega
theorem overZ_eq {r : Row} (g : Good r) (p : Int) : overZ r p = r ↔ p = 0 := by
  unfold overZ
  by_cases h : p = 0
  · rw [if_pos h]
    simp [h]
  · rw [if_neg h]
    constructor
    · intro h2
      exact absurd h2 (over_ne g)
    · intro h2
      exact absurd h2 h
/-- behind a word -/
def doneP (p : Row × Row) (ws : List Bool) : Row × Row := ws.foldl stepP p
theorem doneP_app (p : Row × Row) (a b : List Bool) : doneP p (a ++ b) = doneP (doneP p a) b := List.foldl_append
theorem doneP_snoc (p : Row × Row) (a : List Bool) (w : Bool) : doneP p (a ++ [w]) = stepP (doneP p a) w := by rw [doneP_app]; rfl
theorem pair_done {n : Int} {p : Row × Row} (h : PairOk n p) (ws : List Bool) : PairOk n (doneP p ws) := by
  refine revInd (P := fun ws => PairOk n (doneP p ws)) h (fun l w ih => ?_) ws
  rw [doneP_snoc]
  exact pair_step ih w
theorem step_len {n : Int} {p : Row × Row} (h : PairOk n p) (w : Bool) : (stepP p w).1.length ≤ p.1.length + 1 ∧ (stepP p w).2.length ≤ p.2.length + 1 := ⟨turn1_len h.a w, turn2_len h.b w⟩
theorem done_len {n : Int} {p : Row × Row} (h : PairOk n p) (ws : List Bool) : (doneP p ws).1.length ≤ p.1.length + ws.length ∧ (doneP p ws).2.length ≤ p.2.length + ws.length := by
  refine revInd (P := fun ws => (doneP p ws).1.length ≤ p.1.length + ws.length ∧ (doneP p ws).2.length ≤ p.2.length + ws.length) ⟨Nat.le_refl _, Nat.le_refl _⟩ (fun l w ih => ?_) ws
  rw [doneP_snoc, List.length_append, List.length_singleton]
  have := step_len (pair_done h l) w
  omega
theorem done_back {n : Int} {p : Row × Row} (h : PairOk n p) (ws : List Bool) : doneP (doneP p ws) ws.reverse = p := by
  refine revInd (P := fun ws => doneP (doneP p ws) ws.reverse = p) rfl (fun l w ih => ?_) ws
  rw [List.reverse_append, List.reverse_singleton, doneP_snoc, doneP_app, show doneP (stepP (doneP p l) w) [w] = stepP (stepP (doneP p l) w) w from rfl, step_step (pair_done h l)]
  exact ih
end MP.P


/-! L_wordB: what _law_word, need_word, done of the laws k18, k19, k22, k23 tell. -/
namespace MP.P
open PySem MP
section
variable {M : Md} {k : Nat} {s : Sto}
def sgn (w : Bool) : Nat := if w then 49 else 50
/-- a word as a text: the one's turn, the other one's -/
def wdS (ws : List Bool) : Str := ⟨(ws.map sgn).toArray⟩
def oneS (w : Bool) : Str := ⟨#[sgn w]⟩
theorem wd_len (ws : List Bool) : (wdS ws).length = ws.length := by
  show ((ws.map sgn).toArray).size = _
  simp
theorem wk_wd (ws : List Bool) : wkOf s (.d (.str (wdS ws))) = some (ws.map fun w => Vl.d (.str (oneS w)), []) := by
  show some (((ws.map sgn).toArray.toList.map fun c => Vl.d (.str ⟨#[c]⟩)), []) = _
  rw [List.toList_toArray, List.map_map]
  rfl
theorem wd_app (a b : List Bool) : wdS a ++ wdS b = wdS (a ++ b) := by
  show (⟨(a.map sgn).toArray ++ (b.map sgn).toArray⟩ : Str) = _
  unfold wdS
  simp
theorem wd_rev (a : List Bool) : revS (wdS a) = wdS a.reverse := by
  unfold revS wdS
  simp
theorem v_addS {a b : Str} (h : a.length + b.length ≤ sizeLine) : o2v .add s (.d (.str a)) (.d (.str b)) = some (.d (.str (a ++ b))) := by
  show (if a.length + b.length ≤ sizeLine then _ else none) = _
  rw [if_pos h]
theorem v_addW {a b : List Bool} (h : a.length + b.length ≤ 1000000) : o2v .add s (.d (.str (wdS a))) (.d (.str (wdS b))) = some (.d (.str (wdS (a ++ b)))) := by
  rw [v_addS (by rw [wd_len, wd_len, sizeL]; omega), wd_app]
theorem joinL_w : ∀ bs : List Bool, TL.joinL [] (bs.map fun b => [sgn b]) = bs.map sgn
  | [] => rfl
  | [b] => rfl
  | b :: c :: r => by
    show [sgn b] ++ ([] ++ TL.joinL [] ((c :: r).map fun b => [sgn b])) = _
    rw [joinL_w (c :: r)]
    rfl
theorem join_w (bs : List Bool) : Txt.join (Str.ofString "") (bs.map oneS) = wdS bs := by
  rw [TL.join_eq]
  have h := TL.tl_join (Str.ofString "") (bs.map oneS)
  have e : TL.tl (Str.ofString "") = [] := by decide +kernel
  rw [e, List.map_map] at h
  have e2 : (TL.tl ∘ oneS) = fun b => [sgn b] := rfl
  rw [e2, joinL_w] at h
  have h3 : Str.join (Str.ofString "") (bs.map oneS) = ⟨(TL.tl (Str.join (Str.ofString "") (bs.map oneS))).toArray⟩ := rfl
  rw [h3, h]
  rfl
theorem v_joinW {bs : List Bool} (h : bs.length ≤ 1000000) : smv .join s (.d (.str "")) [.d (.list (bs.map fun b => PyData.str (oneS b)))] = some (.d (.str (wdS bs))) := by
  have e5 : strsOf (bs.map fun b => PyData.str (oneS b)) = some (bs.map oneS) := by
    have := strsOf_map (bs.map oneS)
    rw [List.map_map] at this
    exact this
  have e6 : ((bs.map oneS).map Str.length) = bs.map fun _ => 1 := by
    rw [List.map_map]
    rfl
  have e7 : (Str.ofString "").length = 0 := by decide +kernel
  show (match strsOf (bs.map fun b => PyData.str (oneS b)) with
    | some ys => if (ys.map Str.length).sum + (Str.ofString "").length * ys.length ≤ sizeLine then some (Vl.d (.str (Txt.join (Str.ofString "") ys))) else none
    | none => none) = _
  rw [e5]
  simp only []
  rw [e6, e7, join_w, if_pos]
  rw [sizeL, List.map_const', List.sum_replicate_nat]
  omega
theorem ix12 {i : Int} (h0 : 0 ≤ i) (h1 : i < 2) : o2v .idx s (.d (.str "12")) (.d (.int i)) = some (.d (.str (oneS (decide (i = 0))))) := by
  rcases (by omega : i = 0 ∨ i = 1) with q | q <;> subst q <;> rfl
abbrev whoOfD : PyData := .dict [(.str "1", .str "one"), (.str "2", .str "other")]
theorem dget_who (w : Bool) : dget [(.str "1", .str "one"), (.str "2", .str "other")] (oneS w) = some (.str (whoS w)) := by
  have h1 : ∀ w, (("1" : Str) == oneS w) = w := fun w => by cases w <;> decide +kernel
  have h2 : ∀ w, (("2" : Str) == oneS w) = !w := fun w => by cases w <;> decide +kernel
  unfold dget
  simp only [List.find?_cons, h1, h2]
  cases w <;> rfl
abbrev tw (p : Row × Row) : PyData := tw2 p.1 p.2
end
end MP.P


/-! L_pairB: what _law_pair, rests tell; pairs beside one another. -/
namespace MP.P
open PySem MP
section
variable {M : Md} {k : Nat} {s : Sto}
abbrev nMax : Int := 2 ^ 133
theorem within_of {r : Row} (h : Lim 133 r) : Within r nMax := fun p hp => Int.le_of_lt (h p hp)
theorem PairOk.of {a b : Row} {m n : Int} (ha : Drawn m a) (hb : Drawn n b) : PairOk nMax (a, b) := ⟨ha.g, hb.g, within_of ha.h, within_of hb.h, by decide +kernel⟩
theorem m_lpair [Has M "_law_pull" d_law_pull] [Has M "_law_row" d_law_row] [Has M "_law_pair" d_law_pair] (hk : 3 ≤ k) {n : Nat} {b : Bag} {c : Int} (hs : s[n]? = some (bagL b)) (hd : Dt s) (ok : JOk c b) (hc : c ≤ 90000) :
    ∃ p b', PairOk nMax p ∧ p.1.length ≤ 30 ∧ p.2.length ≤ 30 ∧ JOk (c + 130) b' ∧ lev M k "_law_pair" [.loc n] s = some (.d (tw p), s.set n (bagL b')) := by
  have hlt : n < s.length := (List.getElem?_eq_some_iff.mp hs).1
  have at' : ∀ b : Bag, (s.set n (bagL b))[n]? = some (bagL b) := fun b => List.getElem?_set_self hlt
  obtain ⟨v1, b1, l1, u1, ok1, d1⟩ := m_pull (M := M) (k := k - 1) (m := 4) (by omega) hs ok (by omega) (by omega) (by decide)
  have e38 : (1 : Int) ≤ 10 ^ (38 : Int).toNat := by decide +kernel
  have p38 : powOk 10 38 = true := by decide +kernel
  obtain ⟨m, w, hm0, hm1, hw0, hw1, em⟩ : ∃ m w : Int, 0 ≤ m ∧ m ≤ 30 ∧ 1 ≤ w ∧ w ≤ 10 ^ 38 ∧ ∀ s : Sto, o2v .idx s (.d (.list [.tuple [.int 3, .int 2], .tuple [.int 4, .int 4], .tuple [.int 30, .int 3], .tuple [.int 30, .int (10 ^ (38 : Int).toNat)]])) (.d (.int v1)) = some (.d (.tuple [.int m, .int w])) := by
    rcases (by omega : v1 = 0 ∨ v1 = 1 ∨ v1 = 2 ∨ v1 = 3) with q | q | q | q <;> subst q
    · exact ⟨3, 2, by decide, by decide, by decide, by decide +kernel, fun _ => rfl⟩
    · exact ⟨4, 4, by decide, by decide, by decide, by decide +kernel, fun _ => rfl⟩
    · exact ⟨30, 3, by decide, by decide, by decide, by decide +kernel, fun _ => rfl⟩
    · exact ⟨30, 10 ^ (38 : Int).toNat, by decide, by decide, e38, Int.le_refl _, fun _ => rfl⟩
  obtain ⟨r1, b2, dr1, ok2, d2⟩ := m_jrow (M := M) (k := k - 1) (w := w) (by omega) (at' b1) (Dt.set hd (isDt_bag _)) ok1 (by omega) hm0 hm1 hw0 hw1
  rw [List.set_set] at d2
  obtain ⟨v3, b3, l3, u3, ok3, d3⟩ := m_pull (M := M) (k := k - 1) (m := 2) (by omega) (at' b2) ok2 (by omega) (by omega) (by decide)
  rw [List.set_set] at d3
  obtain ⟨m2, hm2, em2⟩ : ∃ m2 : Int, (m2 = m ∨ m2 = 2) ∧ ∀ s : Sto, o2v .idx s (.d (.list [.int m, .int 2])) (.d (.int v3)) = some (.d (.int m2)) := by
    rcases (by omega : v3 = 0 ∨ v3 = 1) with q | q <;> subst q
    · exact ⟨m, .inl rfl, fun _ => rfl⟩
    · exact ⟨2, .inr rfl, fun _ => rfl⟩
  obtain ⟨r2, b4, dr2, ok4, d4⟩ := m_jrow (M := M) (k := k - 1) (w := w) (m := m2) (by omega) (at' b3) (Dt.set hd (isDt_bag _)) ok3 (by omega) (by omega) (by omega) hw0 hw1
  rw [List.set_set] at d4
  refine ⟨(r1, r2), b4, PairOk.of dr1 dr2, by have := dr1.l; show r1.length ≤ 30; omega, by have := dr2.l; show r2.length ≤ 30; omega, ok4.mono (by omega), d_open (by omega) rfl rfl ?_⟩
  show Wl _ (exB _ b_law_pair [some (.loc n), none, none] s)
  unfold b_law_pair
  refine w_asg (v := .d (.tuple [.int m, .int w])) (s1 := s.set n (bagL b1)) (r1 := [some (.loc n), some (.d (.int m)), some (.d (.int w))]) (e_o2 (e_lstT (es_cons (e_tup (es_cons e_cst (es_cons e_cst es_nil)) rfl) (es_cons (e_tup (es_cons e_cst (es_cons e_cst es_nil)) rfl) (es_cons (e_tup (es_cons e_cst (es_cons e_cst es_nil)) rfl) (es_cons (e_tup (es_cons e_cst (es_cons (e_o2 e_cst e_cst (v_pow p38)) es_nil)) rfl) es_nil)))) rfl) (e_call (es_cons (e_var rfl) (es_cons e_cst es_nil)) d1) (em _)) rfl ?_
  exact w_ret (e_tup (es_cons (e_call (es_cons (e_var rfl) (es_cons (e_var rfl) (es_cons (e_var rfl) es_nil))) d2) (es_cons (e_call (es_cons (e_var rfl) (es_cons (e_o2 (e_lstT (es_cons (e_var rfl) (es_cons e_cst es_nil)) rfl) (e_call (es_cons (e_var rfl) (es_cons e_cst es_nil)) d3) (em2 _)) (es_cons (e_var rfl) es_nil))) d4) es_nil)) rfl) (out_same rfl (by simp))
/-- whose turn rests -/
def restsD (a b : Row) : List PyData := (List.replicate (if (b.map prI).isEmpty = true then (1 : Int) else 0).toNat [PyData.str "one"]).flatten ++ (List.replicate (if (a.map prI).isEmpty = true then (1 : Int) else 0).toNat [PyData.str "other"]).flatten
abbrev otheR : PyData := .str "other"
theorem flt_rests (a b : Row) : okD (.list (restsD a b)) = true := (Flt.list (n := 0) fun y hy => by
  unfold restsD at hy
  rcases List.mem_append.mp hy with q | q
  · obtain ⟨l, h1, h2⟩ := List.mem_flatten.mp q
    rw [(List.mem_replicate.mp h1).2] at h2
    rw [List.mem_singleton.mp h2]
    exact Flt.str _
  · obtain ⟨l, h1, h2⟩ := List.mem_flatten.mp q
    rw [(List.mem_replicate.mp h1).2] at h2
    rw [List.mem_singleton.mp h2]
    exact Flt.str _).ok (by decide)
theorem who_eqs : ((("one" : Str) == whoS true) = true ∧ (("one" : Str) == whoS false) = false) ∧ (("other" : Str) == whoS true) = false ∧ (("other" : Str) == whoS false) = true := by decide +kernel
theorem v_inRests (w : Bool) (a b : Row) : o2v .inn s (.d (.str (whoS w))) (.d (.list (restsD a b))) = some (.d (.bool (if w then b.isEmpty else a.isEmpty))) := by
  show (if okD (.str (whoS w)) && okD (.list (restsD a b)) then some (Vl.d (.bool ((restsD a b).any fun y => PyData.eqv y (.str (whoS w))))) else none) = _
  rw [flt_rests]
  show some (Vl.d (.bool ((restsD a b).any fun y => PyData.eqv y (.str (whoS w))))) = _
  congr 3
  have e1 : ∀ x : Str, PyData.eqv (.str x) (.str (whoS w)) = (x == whoS w) := fun x => rfl
  obtain ⟨⟨q1, q2⟩, q3, q4⟩ := who_eqs
  unfold restsD
  cases a <;> cases b <;> cases w <;> simp [e1, q1, q2, q3, q4]
theorem eqv_tw (p q : Row × Row) : PyData.eqv (tw p) (tw q) = decide (p = q) := PySem.W.Datum.eqv (α := List (Int × Int) × List (Int × Int)) p q
theorem eqv_rowB (a b : Row) : PyData.eqv (.list (a.map prI)) (.list (b.map prI)) = decide (a = b) := PySem.W.Datum.eqv (α := List (Int × Int)) a b
theorem flt_tw (p : Row × Row) : okD (tw p) = true := (Flt.tuple (n := 2) fun x hx => by
  rcases List.mem_cons.mp hx with q | q
  · rw [q]
    exact .list fun x hx => by
      obtain ⟨p, _, rfl⟩ := List.mem_map.mp hx
      exact Flt.pair _ _
  · rw [List.mem_singleton.mp q]
    exact .list fun x hx => by
      obtain ⟨p, _, rfl⟩ := List.mem_map.mp hx
      exact Flt.pair _ _).ok (by decide)
theorem v_eqTw (p q : Row × Row) : o2v .eq s (.d (tw p)) (.d (tw q)) = some (.d (.bool (decide (p = q)))) := by rw [v_eqD (flt_tw p) (flt_tw q), eqv_tw]
theorem v_neTw (p q : Row × Row) : o2v .ne s (.d (tw p)) (.d (tw q)) = some (.d (.bool (!decide (p = q)))) := by rw [v_neD (flt_tw p) (flt_tw q), eqv_tw]
theorem v_eqRw (p q : Row) : o2v .eq s (.d (.list (p.map prI))) (.d (.list (q.map prI))) = some (.d (.bool (decide (p = q)))) := by rw [v_eqD flt_row flt_row, eqv_rowB]
theorem v_neRw (p q : Row) : o2v .ne s (.d (.list (p.map prI))) (.d (.list (q.map prI))) = some (.d (.bool (!decide (p = q)))) := by rw [v_neD flt_row flt_row, eqv_rowB]
end
end MP.P


/-! L_toldB: the second texts of plain, need_row, row_by, turned_over, turned_by, turn, _law_exact: told lists are places of the store; _law_handed. -/
namespace MP.P
open PySem MP
section
variable {M : Md} {k : Nat} {s : Sto}
theorem e_tupM {G : Cn} {r : Nv} {s1 : Sto} {as : Exs} {vs : List Vl} (h : evEs G as r s = some (vs, s1)) (h2 : allD vs = none) : evE G (.tup as) r s = some (.mix vs, s1) := by
  rw [evE, h, bnd_some]
  unfold tupV
  rw [h2]
theorem at_new {o : So} : (s ++ [o])[s.length]? = some o := by
  rw [List.getElem?_append_right (Nat.le_refl _)]
  simp
theorem out_true {b : Bool} (h : b = true) : OutV s.length (.d (.bool true)) s (.rt (.d (.bool b))) s := by
  subst h
  exact out_same rfl (Nat.le_refl _)
theorem out_mix {n i j : Nat} {s1 : Sto} (h : n ≤ i) : OutV n (.mix [.loc i, .loc j]) s1 (.rt (.mix [.loc i, .loc j])) s1 := ⟨_, rfl, by
  unfold trim
  rw [if_neg]
  simp [below, below.belows]
  omega⟩
theorem isDt_row2 (r : Row) : isDt (lsP r) = true := isDt_row r
theorem m_plain_t [Has M "plain'" d_plain_t] (hk : 1 ≤ k) {t : Bool} {m : MRow} (hr : m.length ≤ 1000000) : lev M k "plain'" [.d (mr t m)] s = some (.loc s.length, s ++ [lsP (rowOf m)]) := by
  refine d_open hk rfl rfl ?_
  show Wl _ (exB _ b_plain_t [some (.d (mr t m)), none, none] s)
  unfold b_plain_t
  refine w_ret (s1 := s ++ [lsP (rowOf m)]) (v := .loc s.length) ?_ out_loc
  have := e_compL (G := levG M (k - 1)) (r := [some (.d (mr t m)), none, none]) (s := s) (s1 := s) (own := [1, 2]) (tg := .tup (.cons (.name 1) (.cons (.name 2) .nil))) (it := .seq (.var 0)) (c := .no) (e := .tup (.cons (.var 1) (.cons (.var 2) .nil))) (l := m) (φ := fun q => Vl.d (pr q.1 q.2)) (g := []) (fun q => prI q.2) (i_mr rfl) okGb_nil (by omega) fun p hp => ⟨[some (.d (mr t m)), some (.d (.int p.2.1)), some (.d (.int p.2.2))], by obtain ⟨u, p⟩ := p; cases u <;> rfl, c_no, e_tup (es_cons (e_var rfl) (es_cons (e_var rfl) es_nil)) rfl⟩
  have e : (m.map fun x => Vl.d (prI x.2)) = (rowOf m).map fun p => Vl.d (prI p) := by
    rw [List.map_map]
    rfl
  rw [e] at this
  exact this
theorem m_need_row_t [Has M "is_whole" d_is_whole] [Has M "is_stretch" d_is_stretch] [Has M "is_row" d_is_row] [Has M "plain'" d_plain_t] [Has M "need_row'" d_need_row_t] (hk : 4 ≤ k) {t : Bool} {m : MRow} (hr : m.length ≤ 1000000) (g : Good (rowOf m)) : lev M k "need_row'" [.d (mr t m)] s = some (.loc s.length, s ++ [lsP (rowOf m)]) := by
  refine d_open (by omega) rfl rfl ?_
  show Wl _ (exB _ b_need_row_t [some (.d (mr t m))] s)
  unfold b_need_row_t
  refine w_if (t := !true) (s1 := s) (e_not (e_call (es_cons (e_var rfl) es_nil) (by rw [m_is_row (by omega) (by omega), isRow_of g]))) (fun h => by cases h) fun _ => ?_
  exact w_ret (e_call (es_cons (e_var rfl) es_nil) (m_plain_t (by omega) hr)) out_loc
theorem m_row_by_t [Has M "row_by'" d_row_by_t] (hk : 1 ≤ k) {E : List Int} (hr : E.length ≤ 1000000) : lev M k "row_by'" [.d (.list (E.map .int))] s = some (.loc s.length, s ++ [lsP (rowE E)]) := by
  refine d_open hk rfl rfl ?_
  show Wl _ (exB _ b_row_by_t [some (.d (.list (E.map .int))), none, none] s)
  unfold b_row_by_t
  have hl := prs_len E
  refine w_ret (s1 := s ++ [lsP (rowE E)]) (v := .loc s.length) ?_ out_loc
  have := e_compL (G := levG M (k - 1)) (r := [some (.d (.list (E.map .int))), none, none]) (s := s) (s1 := s) (own := [1, 2]) (tg := .tup (.cons (.name 1) (.cons (.name 2) .nil))) (it := .zip (.sk .even (.var 0)) (.sk .odd (.var 0))) (c := .no) (e := .tup (.cons (.var 1) (.cons (.o2 .sub (.var 2) (.cst (.int 1))) .nil))) (l := prs E) (φ := fun q => Vl.d (.tuple [.int q.1, .int q.2])) (g := []) (fun q => .tuple [.int q.1, .int (q.2 - 1)]) (i_prs rfl) okGb_nil (by omega) fun p _ => ⟨_, rfl, c_no, e_tup (es_cons (e_var rfl) (es_cons (e_o2 (e_var rfl) e_cst v_sub) es_nil)) rfl⟩
  have e : ((prs E).map fun q => Vl.d (.tuple [.int q.1, .int (q.2 - 1)])) = (rowE E).map fun p => Vl.d (prI p) := by
    rw [rowE_prs, List.map_map]
    rfl
  rw [e] at this
  exact this
/-- a row told at place n -/
structure ToldAt (S t : Sto) (i : Nat) (r : Row) : Prop where
  h : t[i]? = some (lsP r)
theorem told_at {t : Sto} {i : Nat} {o : So} (h : t[i]? = some o) : (s ++ t)[s.length + i]? = some o := by
  rw [List.getElem?_append_right (by omega)]
  rw [show s.length + i - s.length = i by omega]
  exact h
theorem m_over_t [Has M "is_whole" d_is_whole] [Has M "is_stretch" d_is_stretch] [Has M "is_row" d_is_row] [Has M "plain'" d_plain_t] [Has M "need_row'" d_need_row_t] [Has M "edges_of" d_edges_of] [Has M "row_by'" d_row_by_t] [Has M "unlike" d_unlike] [Has M "turned_over'" d_turned_over_t]
    (hk : 6 ≤ k) {t0 : Bool} {m : MRow} {p : Int} (hr : m.length ≤ 100000) (g : Good (rowOf m)) (hp : 0 ≤ p) : ∃ t i, Dt t ∧ t[i]? = some (lsP (overZ (rowOf m) p)) ∧ lev M k "turned_over'" [.d (mr t0 m), .d (.int p)] s = some (.loc (s.length + i), s ++ t) := by
  have hrl : (rowOf m).length ≤ 100000 := by rw [List.length_map]; exact hr
  have nr := m_need_row_t (M := M) (k := k - 1) (s := s) (t := t0) (m := m) (by omega) (by omega) g
  by_cases h : p = 0
  · refine ⟨[lsP (rowOf m)], 0, Dt.one (isDt_row2 _), by rw [h]; rfl, d_open (by omega) rfl rfl ?_⟩
    show Wl _ (exB _ b_turned_over_t [some (.d (mr t0 m)), some (.d (.int p)), none] s)
    unfold b_turned_over_t
    refine w_asg (e_call (es_cons (e_var rfl) es_nil) nr) rfl ?_
    refine w_if (e_not (e_call (es_cons (e_var rfl) (es_cons e_cst es_nil)) (m_is_whole (by omega)))) (fun h => ?_) fun _ => ?_
    · simp at h
      omega
    refine w_if (e_o2 (e_var rfl) e_cst v_eqI) (fun _ => ?_) fun h2 => ?_
    · exact w_ret (e_var rfl) out_loc
    · exact absurd h (of_decide_eq_false h2)
  · refine ⟨[.dead, lsP (over (rowOf m) p)], 1, Dt.app (Dt.one rfl) (Dt.one (isDt_row2 _)), by unfold overZ; rw [if_neg h]; rfl, d_open (by omega) rfl rfl ?_⟩
    show Wl _ (exB _ b_turned_over_t [some (.d (mr t0 m)), some (.d (.int p)), none] s)
    unfold b_turned_over_t
    refine w_asg (e_call (es_cons (e_var rfl) es_nil) nr) rfl ?_
    refine w_if (e_not (e_call (es_cons (e_var rfl) (es_cons e_cst es_nil)) (m_is_whole (by omega)))) (fun h => ?_) fun _ => ?_
    · simp at h
      omega
    refine w_if (e_o2 (e_var rfl) e_cst v_eqI) (fun h2 => ?_) fun _ => ?_
    · exact absurd (of_decide_eq_true h2) h
    have hel := edg_len (rowOf m)
    have es : (s ++ [lsP (rowOf m)]).set s.length .dead = s ++ [.dead] := by
      rw [List.set_append_right _ _ (Nat.le_refl _)]
      simp
    have fz : evE (levG M (k - 1)) (.frz (.var 2)) [some (.d (mr t0 m)), some (.d (.int p)), some (.loc s.length)] (s ++ [lsP (rowOf m)]) = some (.d (.list ((rowOf m).map prI)), s ++ [.dead]) := by
      rw [← es]
      exact e_frzL (e_var rfl) at_new allD_f
    have ul := m_unlike (M := M) (k := k - 1) (s := s ++ [.dead]) (A := edg (rowOf m)) (B := [p, p + 1]) (by omega) (by omega) (by simp)
    have hul := unl_len_le (nodup_of_lt (edg_asc g).1) (nodup_of_lt (pair_asc p))
    simp at hul
    have rb := m_row_by_t (M := M) (k := k - 1) (s := s ++ [.dead]) (E := unl (edg (rowOf m)) [p, p + 1]) (by omega) (by omega)
    have e1 : (s ++ [So.dead]) ++ [lsP (rowE (unl (edg (rowOf m)) [p, p + 1]))] = s ++ [.dead, lsP (over (rowOf m) p)] := by
      rw [List.append_assoc]
      rfl
    have e2 : (s ++ [So.dead]).length = s.length + 1 := by simp
    rw [e1, e2] at rb
    exact w_ret (e_call (es_cons (e_call (es_cons (e_call (es_cons fz es_nil) (m_edges_of (by omega) (by omega))) (es_cons (e_lstT (es_cons (e_var rfl) (es_cons (e_o2 (e_var rfl) e_cst v_add) es_nil)) rfl) es_nil)) ul) es_nil) rb) ⟨_, rfl, by
      unfold trim
      rw [if_neg]
      simp [below]
      intro h
      omega⟩
theorem m_turned_by_n [Has M "is_whole" d_is_whole] [Has M "is_stretch" d_is_stretch] [Has M "is_row" d_is_row] [Has M "plain" d_plain] [Has M "need_row" d_need_row] [Has M "plain'" d_plain_t] [Has M "need_row'" d_need_row_t] [Has M "edges_of" d_edges_of] [Has M "row_by'" d_row_by_t] [Has M "unlike" d_unlike] [Has M "turned_over'" d_turned_over_t] [Has M "heads" d_heads] [Has M "turned_by'" d_turned_by_t] [c : Cons M "ONE" onE]
    (hk : 7 ≤ k) {a b : Row} {w : Bool} (ha : a.length ≤ 100000) (hb : b.length ≤ 100000) (ga : Good a) (gb : Good b) :
    ∃ t i j, i ≠ j ∧ Dt t ∧ t[i]? = some (lsP (turn1 a b w)) ∧ t[j]? = some (lsP (turn2 a b w)) ∧ lev M k "turned_by'" [.d (tw2 a b), .d (.str (whoS w))] s = some (.mix [.loc (s.length + i), .loc (s.length + j)], s ++ t) := by
  have hh : ∀ {r : Row} {s : Sto}, r.length ≤ 100000 → Good r → lev M (k - 1) "heads" [.d (.list (r.map prI))] s = some (.d (.int (cnt r)), s) := fun {r s} hr g => by
    have := m_heads (M := M) (k := k - 1) (s := s) (t := false) (m := r.map fun p => (true, p)) (by omega) (by rw [List.length_map]; omega) (by rw [rowOf_row]; exact g)
    rw [mr_row, rowOf_row] at this
    exact this
  have hp : ∀ {r : Row} {s : Sto}, r.length ≤ 100000 → lev M (k - 1) "plain'" [.d (.list (r.map prI))] s = some (.loc s.length, s ++ [lsP r]) := fun {r s} hr => by
    have := m_plain_t (M := M) (k := k - 1) (s := s) (t := false) (m := r.map fun p => (true, p)) (by omega) (by rw [List.length_map]; omega)
    rw [mr_row, rowOf_row] at this
    exact this
  have ho : ∀ {r : Row} {p : Int} {s : Sto}, r.length ≤ 100000 → Good r → 0 ≤ p → ∃ t i, Dt t ∧ t[i]? = some (lsP (overZ r p)) ∧ lev M (k - 1) "turned_over'" [.d (.list (r.map prI)), .d (.int p)] s = some (.loc (s.length + i), s ++ t) := fun {r p s} hr g h0 => by
    have := m_over_t (M := M) (k := k - 1) (s := s) (t0 := false) (m := r.map fun p => (true, p)) (p := p) (by omega) (by rw [List.length_map]; omega) (by rw [rowOf_row]; exact g) h0
    rw [mr_row, rowOf_row] at this
    exact this
  cases w with
  | true =>
    obtain ⟨t, i, hd, hi, e1⟩ := ho (s := s) ha ga (cnt_nn gb)
    have hil : i < t.length := (List.getElem?_eq_some_iff.mp hi).1
    have e2 := hp (s := s ++ t) hb
    rw [List.append_assoc, List.length_append] at e2
    refine ⟨t ++ [lsP b], i, t.length, by omega, Dt.app hd (Dt.one (isDt_row2 _)), by rw [List.getElem?_append_left hil]; exact hi, at_new, d_open (by omega) rfl rfl ?_⟩
    show Wl _ (exB _ b_turned_by_t [some (.d (tw2 a b)), some (.d (.str (whoS true))), none, none] s)
    unfold b_turned_by_t
    refine w_asg (v := .d (tw2 a b)) (s1 := s) (r1 := [some (.d (tw2 a b)), some (.d (.str (whoS true))), some (.d (.list (a.map prI))), some (.d (.list (b.map prI)))]) (by first | exact e_var rfl | exact e_frzD (e_var rfl)) rfl ?_
    refine w_if (e_o2 (e_var rfl) (e_glb (by rw [levG_con]; exact c.h)) v_eqS) (fun h => ?_) fun h => ?_
    · exact w_ret (e_tupM (es_cons (e_call (es_cons (e_var rfl) (es_cons (e_call (es_cons (e_var rfl) es_nil) (hh hb gb)) es_nil)) e1) (es_cons (e_call (es_cons (e_var rfl) es_nil) e2) es_nil)) rfl) (out_mix (by omega))
    · rw [who_one] at h
      cases h
  | false =>
    have e1 := hp (s := s) ha
    obtain ⟨t, i, hd, hi, e2⟩ := ho (s := s ++ [lsP a]) hb gb (cnt_nn ga)
    rw [List.append_assoc, List.length_append, List.length_singleton] at e2
    refine ⟨[lsP a] ++ t, 0, 1 + i, by omega, Dt.app (Dt.one (isDt_row2 _)) hd, rfl, by rw [List.getElem?_append_right (by simp)]; rw [show 1 + i - [lsP a].length = i by simp]; exact hi, d_open (by omega) rfl rfl ?_⟩
    show Wl _ (exB _ b_turned_by_t [some (.d (tw2 a b)), some (.d (.str (whoS false))), none, none] s)
    unfold b_turned_by_t
    refine w_asg (v := .d (tw2 a b)) (s1 := s) (r1 := [some (.d (tw2 a b)), some (.d (.str (whoS false))), some (.d (.list (a.map prI))), some (.d (.list (b.map prI)))]) (by first | exact e_var rfl | exact e_frzD (e_var rfl)) rfl ?_
    refine w_if (e_o2 (e_var rfl) (e_glb (by rw [levG_con]; exact c.h)) v_eqS) (fun h => ?_) fun h => ?_
    · rw [who_one] at h
      cases h
    · rw [Nat.add_assoc] at e2
      exact w_ret (e_tupM (es_cons (e_call (es_cons (e_var rfl) es_nil) e1) (es_cons (e_call (es_cons (e_var rfl) (es_cons (e_call (es_cons (e_var rfl) es_nil) (hh ha ga)) es_nil)) e2) es_nil)) rfl) (out_mix (by omega))
theorem m_turned_by_t [Has M "is_whole" d_is_whole] [Has M "is_stretch" d_is_stretch] [Has M "is_row" d_is_row] [Has M "plain" d_plain] [Has M "need_row" d_need_row] [Has M "plain'" d_plain_t] [Has M "need_row'" d_need_row_t] [Has M "edges_of" d_edges_of] [Has M "row_by'" d_row_by_t] [Has M "unlike" d_unlike] [Has M "turned_over'" d_turned_over_t] [Has M "heads" d_heads] [Has M "turned_by'" d_turned_by_t] [c : Cons M "ONE" onE]
    (hk : 7 ≤ k) {a b : Row} {w : Bool} (ha : a.length ≤ 100000) (hb : b.length ≤ 100000) (ga : Good a) (gb : Good b) :
    ∃ t i j, Dt t ∧ t[i]? = some (lsP (turn1 a b w)) ∧ t[j]? = some (lsP (turn2 a b w)) ∧ lev M k "turned_by'" [.d (tw2 a b), .d (.str (whoS w))] s = some (.mix [.loc (s.length + i), .loc (s.length + j)], s ++ t) := by
  obtain ⟨t, i, j, _, h⟩ := m_turned_by_n (M := M) (k := k) (s := s) (w := w) hk ha hb ga gb
  exact ⟨t, i, j, h⟩
theorem b_lenM {vs : List Vl} : biv .len s [.mix vs] = some (.d (.int vs.length)) := rfl
end
end MP.P


/-! L_handB: what _law_handed of the laws k15, k17, k18, k20 tells; what is shown of it. -/
namespace MP.P
open PySem MP
section
variable {M : Md} {k : Nat} {s : Sto}
theorem pickH (r : Row) {i : Int} (h0 : 0 ≤ i) (h1 : i < 3) : ∃ t m, rowOf m = r ∧ ∀ s : Sto, o2v .idx s (.d (.list [.list (r.map prI), .tuple (r.map prI), .list (r.map fun p => PyData.list [.int p.1, .int p.2])])) (.d (.int i)) = some (.d (mr t m)) := by
  have e1 : mr true (r.map fun p => (true, p)) = .tuple (r.map prI) := by
    show PyData.tuple ((r.map fun p => (true, p)).map fun q => pr q.1 q.2) = _
    rw [List.map_map]
    rfl
  have e2 : mr false (r.map fun p => (false, p)) = .list (r.map fun p => PyData.list [.int p.1, .int p.2]) := by
    show PyData.list ((r.map fun p => (false, p)).map fun q => pr q.1 q.2) = _
    rw [List.map_map]
    rfl
  rcases (by omega : i = 0 ∨ i = 1 ∨ i = 2) with q | q | q <;> subst q
  · exact ⟨false, r.map fun p => (true, p), rowOf_row r, fun _ => by rw [mr_row]; rfl⟩
  · exact ⟨true, r.map fun p => (true, p), rowOf_row r, fun _ => by rw [e1]; rfl⟩
  · exact ⟨false, r.map fun p => (false, p), by show (r.map fun p => (false, p)).map (fun q => q.2) = r; rw [List.map_map]; exact List.map_id r, fun _ => by rw [e2]; rfl⟩
theorem b_tupP {n : Nat} {vs : List Vl} {ds : List PyData} (h : s[n]? = some (.lst vs)) (h2 : allD vs = some ds) : biv .tuple s [.loc n] = some (.d (.tuple ds)) := by
  have : flat s (.loc n) = some (false, ds) := by
    unfold flat
    simp only [h, h2]
  show (match flat s (.loc n) with
    | some (_, xs) => some (Vl.d (.tuple xs))
    | _ => none) = _
  rw [this]
theorem m_handB [Has M "_law_pull" d_law_pull] [Has M "_law_handed" d_law_handed] (hk : 2 ≤ k) {n : Nat} {b : Bag} {c : Int} {x y : Row} (hs : s[n]? = some (bagL b)) (hd : Dt s) (ok : JOk c b) (hc : c ≤ 90000) (hx : x.length ≤ 1000000) (hy : y.length ≤ 1000000) :
    ∃ t0 t1 t2 m1 m2 b', rowOf m1 = x ∧ rowOf m2 = y ∧ JOk (c + 3) b' ∧ lev M k "_law_handed" [.loc n, .d (tw2 x y)] s = some (.d (sq t0 [mr t1 m1, mr t2 m2]), s.set n (bagL b')) := by
  have hlt : n < s.length := (List.getElem?_eq_some_iff.mp hs).1
  have hsb := bag_set hs
  have fl := pulls (M := M) (k := k - 1) (s := s) (by omega) hlt
  have main := d_openE (M := M) (k := k) (x := "_law_handed") (s := s) (vs := [.loc n, .d (tw2 x y)]) (ι := (Bool × (Bool × MRow) × (Bool × MRow)) × Bag) (R := fun z => rowOf z.1.2.1.2 = x ∧ rowOf z.1.2.2.2 = y ∧ JOk (c + 3) z.2) (v := fun z => .d (sq z.1.1 [mr z.1.2.1.1 z.1.2.1.2, mr z.1.2.2.1 z.1.2.2.2])) (s' := fun z => s.set n (bagL z.2)) (by omega) rfl rfl ?_
  · obtain ⟨z, ⟨h1, h2, h3⟩, h4⟩ := main
    exact ⟨z.1.1, z.1.2.1.1, z.1.2.2.1, z.1.2.1.2, z.1.2.2.2, z.2, h1, h2, h3, h4⟩
  show Wl _ (exB _ b_law_handed [some (.loc n), some (.d (tw2 x y)), none, none, none, none] s)
  unfold b_law_handed
  refine w_asg (e_lstF es_nil) rfl ?_
  have dtl : ∀ ms : List (Bool × MRow), allD (ms.map fun q => Vl.d (mr q.1 q.2)) = some (ms.map fun q => mr q.1 q.2) := fun ms => allD_f
  have idt : ∀ ms : List (Bool × MRow), isDt (.lst (ms.map fun q => Vl.d (mr q.1 q.2))) = true := fun ms => by
    show (allD _).isSome = true
    rw [dtl] <;> rfl
  have atl : ∀ (b' : Bag) (ms : List (Bool × MRow)), (s.set n (bagL b') ++ [So.lst (ms.map fun q => Vl.d (mr q.1 q.2))])[s.length]? = some (.lst (ms.map fun q => Vl.d (mr q.1 q.2))) := fun b' ms => by
    rw [List.getElem?_append_right (by simp)]
    simp
  apply w_for (l := [x, y]) (φ := fun r : Row => Vl.d (.list (r.map prI))) (g := []) (s1 := s ++ [.lst []]) (fun pre e s1 => ∃ (ms : List (Bool × MRow)) (b' : Bag) (u v : Option Vl), ms.map (fun q => rowOf q.2) = pre ∧ JOk (c + pre.length) b' ∧ s1 = s.set n (bagL b') ++ [.lst (ms.map fun q => Vl.d (mr q.1 q.2))] ∧
    e = [some (.loc n), some (.d (tw2 x y)), some (.loc s.length), u, v, none])
  · exact i_seq (e_var rfl) rfl
  · exact ⟨[], b, none, none, rfl, ok.mono (by simp), by rw [← hsb]; rfl, rfl⟩
  · rintro pre r post e s1 hl ⟨ms, b', u, v, hm, okb, rfl, rfl⟩
    have hpl : pre.length ≤ 1 := by
      have := congrArg List.length hl
      simp at this
      omega
    have hr : r.length ≤ 1000000 := by
      have : r ∈ [x, y] := by rw [hl]; simp
      rcases List.mem_cons.mp this with q | q
      · rw [q]; exact hx
      · rw [List.mem_singleton.mp q]; exact hy
    have hml : ms.length = pre.length := by rw [← hm, List.length_map]
    obtain ⟨w1, c1, w1l, w1u, oc1, f1⟩ := fl [So.lst (ms.map fun q => Vl.d (mr q.1 q.2))] _ 3 b' okb (by omega) (by omega) (by decide)
    obtain ⟨t, m, hrm, hix⟩ := pickH r w1l w1u
    refine ⟨okGb_nil, [some (.loc n), some (.d (tw2 x y)), some (.loc s.length), some (.d (.list (r.map prI))), v, none], rfl, ?_⟩
    unfold b_law_handed_2
    have cm : evE (levG M (k - 1)) x_law_handed_1 [some (.loc n), some (.d (tw2 x y)), some (.loc s.length), some (.d (.list (r.map prI))), v, none] (s.set n (bagL b') ++ [So.lst (ms.map fun q => Vl.d (mr q.1 q.2))]) = some (.d (.list (r.map fun p => PyData.list [.int p.1, .int p.2])), s.set n (bagL b') ++ [So.lst (ms.map fun q => Vl.d (mr q.1 q.2))]) :=
      e_comp (l := r) (φ := fun p => Vl.d (prI p)) (g := []) (fun p => PyData.list [.int p.1, .int p.2]) (i_row (e_var rfl)) okGb_nil (by omega) fun p _ => ⟨_, rfl, c_no, e_bi (es_cons (e_var rfl) es_nil) b_list_t⟩
    refine w_asg (e_lstT (es_cons (e_var rfl) (es_cons (e_bi (es_cons (e_var rfl) es_nil) b_tup_l) (es_cons cm es_nil))) rfl) rfl ?_
    refine w_ex (e_lm (e_var rfl) (atl _ _) (es_cons (e_o2 (e_var rfl) (e_call (es_cons (e_var rfl) (es_cons e_cst es_nil)) f1) (hix _)) es_nil) (atl _ _) (lm_app (by rw [List.length_map, sizeL]; omega))) ?_
    refine s_done ⟨ms ++ [(t, m)], c1, some (.d (.list (r.map prI))), _, by rw [List.map_append, hm]; show _ ++ [rowOf m] = _; rw [hrm], oc1.mono (by simp; omega), ?_, rfl⟩
    rw [List.set_append_right _ _ (by simp)]
    simp
  · rintro e s1 ⟨ms, b', u, v, hm, okb, rfl, rfl⟩
    refine ⟨okGb_nil, ?_⟩
    obtain ⟨q1, q2, rfl⟩ : ∃ q1 q2, ms = [q1, q2] := by
      have := congrArg List.length hm
      simp at this
      match ms, this with
      | [a, b], _ => exact ⟨a, b, rfl⟩
    have h1 : rowOf q1.2 = x ∧ rowOf q2.2 = y := by
      have := hm
      simp only [List.map_cons, List.map_nil] at this
      exact ⟨(List.cons.inj this).1, (List.cons.inj (List.cons.inj this).2).1⟩
    have okb : JOk (c + 2) b' := okb
    obtain ⟨w1, c1, w1l, w1u, oc1, f1⟩ := fl [So.lst ([q1, q2].map fun q => Vl.d (mr q.1 q.2))] _ 2 b' okb (by omega) (by omega) (by decide)
    have okk : JOk (c + 3) c1 := oc1.mono (by omega)
    by_cases hw : w1 = 0
    · refine w_ret (v := .d (.tuple ([q1, q2].map fun q => mr q.1 q.2))) (e_ites (t := true) (e_o2 (e_call (es_cons (e_var rfl) (es_cons e_cst es_nil)) f1) e_cst (by rw [v_eqI, decide_eq_true hw])) (fun _ => e_bi (es_cons (e_var rfl) es_nil) (b_tupP (atl c1 [q1, q2]) (dtl _))) (fun h => by cases h)) ⟨((true, q1, q2), c1), ⟨h1.1, h1.2, okk⟩, out_cut ?_ ?_⟩
      · exact Dt.take (Dt.app (Dt.set hd (isDt_bag _)) (Dt.one (idt _))) _
      · rw [List.take_append_of_le_length (by simp), List.take_of_length_le (by simp)]
    · refine w_ret (v := .d (.list ([q1, q2].map fun q => mr q.1 q.2))) (e_ites (t := false) (e_o2 (e_call (es_cons (e_var rfl) (es_cons e_cst es_nil)) f1) e_cst (by rw [v_eqI, decide_eq_false hw])) (fun h => by cases h) (fun _ => e_frzL (e_var rfl) (atl c1 [q1, q2]) (dtl _))) ⟨((false, q1, q2), c1), ⟨h1.1, h1.2, okk⟩, out_cut ?_ ?_⟩
      · exact Dt.take (Dt.set (Dt.app (Dt.set hd (isDt_bag _)) (Dt.one (idt _))) rfl) _
      · rw [List.set_append_right _ _ (by simp), List.take_append_of_le_length (by simp), List.take_of_length_le (by simp)]
theorem shw_mr {t : Bool} {m : MRow} {j : Nat} (hj : 0 < j) (hj2 : j ≤ 400) (hm : m.length ≤ 1000) (h : ∀ p ∈ rowOf m, p.1.natAbs < 10 ^ j ∧ p.2.natAbs < 10 ^ j) : Shw 2 812000 (mr t m) := by
  have hp : ∀ x ∈ m.map (fun q => pr q.1 q.2), Shw 1 (2 * (j + 3) + 3) x := fun x hx => by
    obtain ⟨⟨u, p⟩, hq, rfl⟩ := List.mem_map.mp hx
    have hpp := h p (List.mem_map.mpr ⟨(u, p), hq, rfl⟩)
    cases u
    · have q : Shw (0 + 1) ([PyData.int p.1, PyData.int p.2].length * (j + 1 + 2) + 2) (.list [.int p.1, .int p.2]) := Shw.list (L := j + 1) fun x hx => by
        rcases List.mem_cons.mp hx with q | q
        · rw [q]; exact .int hj (by omega) hpp.1
        · have : x = .int p.2 := by simpa using q
          rw [this]; exact .int hj (by omega) hpp.2
      exact q.mono (Nat.le_refl _) (by simp)
    · exact Shw.pair hj (by omega) hpp.1 hpp.2
  have hl : (m.map fun q => pr q.1 q.2).length * (2 * (j + 3) + 3 + 2) ≤ 1000 * 811 := by
    rw [List.length_map]
    exact Nat.mul_le_mul hm (by omega)
  cases t
  · exact (Shw.list hp).mono (Nat.le_refl _) (by omega)
  · exact (Shw.tuple hp).mono (Nat.le_refl _) (by omega)
theorem show_two {t0 : Bool} {x y : PyData} (hx : Shw 2 812000 x) (hy : Shw 2 812000 y) : showOk (sq t0 [x, y]) = true := by
  have h : ∀ z ∈ [x, y], Shw 2 812000 z := fun z hz => by
    rcases List.mem_cons.mp hz with q | q
    · rw [q]; exact hx
    · rw [List.mem_singleton.mp q]; exact hy
  cases t0
  · exact (Shw.list h).ok (by decide) (by simp)
  · have q := Shw.tuple h
    unfold showOk
    show (isSeq (PyData.tuple _) && (PyData.tuple _).showable && !(PyData.tuple _).hasDict && decide ((PyData.tuple _).depth ≤ 60) && decide ((PyData.tuple _).shown.length ≤ sizeLine)) = true
    rw [q.s, q.h, decide_eq_true (Nat.le_trans q.d (by decide)), decide_eq_true (show (PyData.tuple _).shown.length ≤ sizeLine by rw [sizeL]; exact Nat.le_trans q.l (by simp))]
    rfl
/-- a pair handed in may be shown -/
theorem show_hand {t0 t1 t2 : Bool} {m1 m2 : MRow} (l1 : m1.length ≤ 1000) (l2 : m2.length ≤ 1000) (h : PairOk nMax (rowOf m1, rowOf m2)) : showOk (sq t0 [mr t1 m1, mr t2 m2]) = true := by
  have key : ∀ {r : Row}, Good r → Within r nMax → ∀ p ∈ r, p.1.natAbs < 10 ^ 45 ∧ p.2.natAbs < 10 ^ 45 := fun {r} g w p hp => by
    have h1 := g.s p hp
    have h2 := w p hp
    have h3 : (nMax : Int) < ((10 ^ 45 : Nat) : Int) := by decide +kernel
    have h4 : ((10 ^ 45 : Nat) : Int) = (10 : Int) ^ 45 := by simp
    generalize hN : (10 ^ 45 : Nat) = N at *
    omega
  exact show_two (shw_mr (j := 45) (by omega) (by omega) l1 (key h.a h.wa)) (shw_mr (j := 45) (by omega) (by omega) l2 (key h.b h.wb))
end
end MP.P


/-! L_lendB: calls that are lent lists of the store; the second texts at lists of the store. -/
namespace MP.P
open PySem MP
section
variable {M : Md} {k : Nat} {s : Sto}
theorem m_plain_pair_t [Has M "is_whole" d_is_whole] [Has M "is_stretch" d_is_stretch] [Has M "is_row" d_is_row] [Has M "is_pair" d_is_pair] [Has M "plain'" d_plain_t] [Has M "plain_pair'" d_plain_pair_t] (hk : 5 ≤ k) {t t1 t2 : Bool} {m1 m2 : MRow} (h1 : m1.length ≤ 1000000) (h2 : m2.length ≤ 1000000) (g1 : Good (rowOf m1)) (g2 : Good (rowOf m2)) :
    lev M k "plain_pair'" [.d (sq t [mr t1 m1, mr t2 m2])] s = some (.mix [.loc (s.length + 0), .loc (s.length + 1)], s ++ [lsP (rowOf m1), lsP (rowOf m2)]) := by
  refine d_open (by omega) rfl rfl ?_
  show Wl _ (exB _ b_plain_pair_t [some (.d (sq t [mr t1 m1, mr t2 m2]))] s)
  unfold b_plain_pair_t
  refine w_if (t := !true) (s1 := s) (e_not (e_call (es_cons (e_var rfl) es_nil) (m_is_pair (by omega) h1 h2 g1 g2))) (fun h => by cases h) fun _ => ?_
  have p1 := m_plain_t (M := M) (k := k - 1) (s := s) (t := t1) (m := m1) (by omega) (by omega)
  have p2 := m_plain_t (M := M) (k := k - 1) (s := s ++ [lsP (rowOf m1)]) (t := t2) (m := m2) (by omega) (by omega)
  have e1 : (s ++ [lsP (rowOf m1)]).length = s.length + 1 := by simp
  rw [e1, List.append_assoc] at p2
  refine w_ret (e_tupM (es_cons (e_call (es_cons (e_o2 (e_var rfl) e_cst ix0_sq) es_nil) p1) (es_cons (e_call (es_cons (e_o2 (e_var rfl) e_cst ix1_sq) es_nil) p2) es_nil)) rfl) (out_mix (by omega))
theorem allM_len {f : Vl → Option PyData} : ∀ {vs : List Vl} {ds : List PyData}, allM f vs = some ds → ds.length = vs.length
  | [], ds, h => by cases h; rfl
  | v :: vs, ds, h => by
    unfold allM at h
    split at h
    · rename_i x xs e1 e2
      cases h
      exact congrArg Nat.succ (allM_len e2)
    · cases h
theorem allM_data {s : Sto} : ∀ {vs : List Vl} {ds : List PyData}, allD vs = some ds → allM (datV s) vs = some ds
  | [], ds, h => by cases h; rfl
  | v :: vs, ds, h => by
    cases v with
    | d x =>
      have h' : (allD vs).map (x :: ·) = some ds := h
      obtain ⟨es, q1, q2⟩ := Option.map_eq_some_iff.mp h'
      subst q2
      unfold allM
      rw [allM_data q1]
      rfl
    | loc i => cases h
    | mix q => cases h
theorem allD_eq : ∀ {vs : List Vl} {ds : List PyData}, allD vs = some ds → vs = ds.map Vl.d
  | [], ds, h => by cases h; rfl
  | v :: vs, ds, h => by
    cases v with
    | d x =>
      have h' : (allD vs).map (x :: ·) = some ds := h
      obtain ⟨es, q1, q2⟩ := Option.map_eq_some_iff.mp h'
      subst q2
      rw [List.map_cons, allD_eq q1]
    | loc i => cases h
    | mix q => cases h
theorem allD_mapd : ∀ ds : List PyData, allD (ds.map Vl.d) = some ds
  | [] => rfl
  | x :: ds => by
    show (allD (ds.map Vl.d)).map (x :: ·) = _
    rw [allD_mapd ds]
    rfl
/-- a clean def that tells no list, lent lists of the store -/
theorem m_lend {f : Str} {D : Df} [h : Has M f D] {vs : List Vl} {ds : List PyData} {x : PyData} (hc : D.clean = true) (h1 : allM (datV s) vs = some ds) (ha : atomD x = true) (h2 : lev M k f (ds.map Vl.d) s = some (.d x, s)) : lev M k f vs s = some (.d x, s) := by
  cases hv : allD vs with
  | some es =>
    have e1 := allD_eq hv
    rw [allM_data hv] at h1
    cases h1
    rw [e1]
    exact h2
  | none =>
    cases k with
    | zero => rw [lev] at h2; cases h2
    | succ k =>
      rw [lev_eq, h.tb] at h2 ⊢
      simp only [] at h2 ⊢
      unfold runD at h2 ⊢
      have hl : (ds.map Vl.d).length = vs.length := by rw [List.length_map, allM_len h1]
      rw [hl, hc, allD_mapd] at h2
      rw [hc, hv, h1]
      by_cases hn : vs.length = D.np
      · rw [if_pos hn] at h2 ⊢
        simp only [if_true] at h2 ⊢
        generalize exB (levG M k) D.body ((ds.map Vl.d).map some ++ List.replicate (D.ns - D.np) none) [] = o at h2 ⊢
        cases o with
        | none => cases h2
        | some p =>
          obtain ⟨fl, s1⟩ := p
          simp only [] at h2 ⊢
          generalize outOf fl = q at h2 ⊢
          cases q with
          | none => cases h2
          | some v =>
            cases v with
            | d y =>
              cases h2
              simp only [ha, if_true]
            | loc i => cases h2
            | mix i => cases h2
      · rw [if_neg hn] at h2
        cases h2
theorem allM_d {s : Sto} {n : Nat} (ds : List PyData) : allM (datN s n) (ds.map Vl.d) = some ds := by
  induction ds with
  | nil => rfl
  | cons x ds ih =>
    have e0 : datN s n (.d x) = some x := by cases n <;> rfl
    rw [List.map_cons]
    unfold allM
    rw [e0, ih]
theorem dat_row {s : Sto} {n i : Nat} {r : Row} (h : s[i]? = some (lsP r)) : datN s (n + 1) (.loc i) = some (.list (r.map prI)) := by
  show (match s[i]? with
      | some (.lst vs) => (allM (datN s n) vs).map PyData.list
      | _ => none) = _
  rw [h]
  show (allM (datN s n) (r.map fun p => Vl.d (prI p))).map PyData.list = _
  have := allM_d (s := s) (n := n) (r.map prI)
  rw [List.map_map] at this
  have e : (Vl.d ∘ prI) = fun p => Vl.d (prI p) := rfl
  rw [e] at this
  rw [this]
  rfl
theorem dat_two {s : Sto} {n i j : Nat} {a b : Row} (h : s[i]? = some (lsP a)) (h2 : s[j]? = some (lsP b)) : datN s (n + 2) (.mix [.loc i, .loc j]) = some (tw2 a b) := by
  show (allM (datN s (n + 1)) [.loc i, .loc j]).map PyData.tuple = _
  unfold allM
  rw [dat_row h]
  unfold allM
  rw [dat_row h2]
  rfl
theorem datV_row {s : Sto} {i : Nat} {r : Row} (h : s[i]? = some (lsP r)) : datV s (.loc i) = some (.list (r.map prI)) := dat_row (n := 5) h
theorem m_plain_tl [Has M "plain'" d_plain_t] (hk : 1 ≤ k) {i : Nat} {r : Row} (h : s[i]? = some (lsP r)) (hr : r.length ≤ 1000000) : lev M k "plain'" [.loc i] s = some (.loc s.length, s ++ [lsP r]) := by
  refine d_open hk rfl rfl ?_
  show Wl _ (exB _ b_plain_t [some (.loc i), none, none] s)
  unfold b_plain_t
  refine w_ret (s1 := s ++ [lsP r]) (v := .loc s.length) ?_ out_loc
  have hw : wkOf s (.loc i) = some (r.map fun p => Vl.d (prI p), [(i, r.map fun p => Vl.d (prI p))]) := by
    simp only [wkOf, h]
  exact e_compL (G := levG M (k - 1)) (r := [some (.loc i), none, none]) (s := s) (s1 := s) (own := [1, 2]) (tg := .tup (.cons (.name 1) (.cons (.name 2) .nil))) (it := .seq (.var 0)) (c := .no) (e := .tup (.cons (.var 1) (.cons (.var 2) .nil))) (l := r) (φ := fun q => Vl.d (prI q)) (g := [(i, r.map fun p => Vl.d (prI p))]) (fun q => prI q) (i_seq (e_var rfl) hw) (okGb_one h) (by omega) fun p hp => ⟨[some (.loc i), some (.d (.int p.1)), some (.d (.int p.2))], rfl, c_no, e_tup (es_cons (e_var rfl) (es_cons (e_var rfl) es_nil)) rfl⟩
theorem m_need_row_tl [Has M "is_whole" d_is_whole] [Has M "is_stretch" d_is_stretch] [Has M "is_row" d_is_row] [Has M "plain'" d_plain_t] [Has M "need_row'" d_need_row_t] (hk : 4 ≤ k) {i : Nat} {r : Row} (h : s[i]? = some (lsP r)) (hr : r.length ≤ 1000000) (g : Good r) : lev M k "need_row'" [.loc i] s = some (.loc s.length, s ++ [lsP r]) := by
  refine d_open (by omega) rfl rfl ?_
  show Wl _ (exB _ b_need_row_t [some (.loc i)] s)
  unfold b_need_row_t
  have ir : lev M (k - 1) "is_row" [.loc i] s = some (.d (.bool true), s) := by
    refine m_lend (ds := [.list (r.map prI)]) rfl (by unfold allM; rw [datV_row h]; rfl) rfl ?_
    have := m_is_row (M := M) (k := k - 1) (s := s) (t := false) (m := r.map fun p => (true, p)) (by omega) (by rw [List.length_map]; omega)
    rw [mr_row, rowOf_row, isRow_of g] at this
    exact this
  refine w_if (t := !true) (s1 := s) (e_not (e_call (es_cons (e_var rfl) es_nil) ir)) (fun h => by cases h) fun _ => ?_
  exact w_ret (e_call (es_cons (e_var rfl) es_nil) (m_plain_tl (by omega) h hr)) out_loc
theorem m_over_x [Has M "is_whole" d_is_whole] [Has M "edges_of" d_edges_of] [Has M "row_by'" d_row_by_t] [Has M "unlike" d_unlike] [Has M "turned_over'" d_turned_over_t]
    (hk : 6 ≤ k) {x : Vl} {r : Row} {p : Int} (nr : lev M (k - 1) "need_row'" [x] s = some (.loc s.length, s ++ [lsP r])) (hrl : r.length ≤ 100000) (g : Good r) (hp : 0 ≤ p) : ∃ t i, Dt t ∧ t[i]? = some (lsP (overZ r p)) ∧ lev M k "turned_over'" [x, .d (.int p)] s = some (.loc (s.length + i), s ++ t) := by
  by_cases h : p = 0
  · refine ⟨[lsP r], 0, Dt.one (isDt_row2 _), by rw [h]; rfl, d_open (by omega) rfl rfl ?_⟩
    show Wl _ (exB _ b_turned_over_t [some x, some (.d (.int p)), none] s)
    unfold b_turned_over_t
    refine w_asg (e_call (es_cons (e_var rfl) es_nil) nr) rfl ?_
    refine w_if (e_not (e_call (es_cons (e_var rfl) (es_cons e_cst es_nil)) (m_is_whole (by omega)))) (fun h => ?_) fun _ => ?_
    · simp at h
      omega
    refine w_if (e_o2 (e_var rfl) e_cst v_eqI) (fun _ => ?_) fun h2 => ?_
    · exact w_ret (e_var rfl) out_loc
    · exact absurd h (of_decide_eq_false h2)
  · refine ⟨[.dead, lsP (over r p)], 1, Dt.app (Dt.one rfl) (Dt.one (isDt_row2 _)), by unfold overZ; rw [if_neg h]; rfl, d_open (by omega) rfl rfl ?_⟩
    show Wl _ (exB _ b_turned_over_t [some x, some (.d (.int p)), none] s)
    unfold b_turned_over_t
    refine w_asg (e_call (es_cons (e_var rfl) es_nil) nr) rfl ?_
    refine w_if (e_not (e_call (es_cons (e_var rfl) (es_cons e_cst es_nil)) (m_is_whole (by omega)))) (fun h => ?_) fun _ => ?_
    · simp at h
      omega
    refine w_if (e_o2 (e_var rfl) e_cst v_eqI) (fun h2 => ?_) fun _ => ?_
    · exact absurd (of_decide_eq_true h2) h
    have hel := edg_len r
    have es : (s ++ [lsP r]).set s.length .dead = s ++ [.dead] := by
      rw [List.set_append_right _ _ (Nat.le_refl _)]
      simp
    have fz : evE (levG M (k - 1)) (.frz (.var 2)) [some x, some (.d (.int p)), some (.loc s.length)] (s ++ [lsP r]) = some (.d (.list (r.map prI)), s ++ [.dead]) := by
      rw [← es]
      exact e_frzL (e_var rfl) at_new allD_f
    have ul := m_unlike (M := M) (k := k - 1) (s := s ++ [.dead]) (A := edg r) (B := [p, p + 1]) (by omega) (by omega) (by simp)
    have hul := unl_len_le (nodup_of_lt (edg_asc g).1) (nodup_of_lt (pair_asc p))
    simp at hul
    have rb := m_row_by_t (M := M) (k := k - 1) (s := s ++ [.dead]) (E := unl (edg r) [p, p + 1]) (by omega) (by omega)
    have e1 : (s ++ [So.dead]) ++ [lsP (rowE (unl (edg r) [p, p + 1]))] = s ++ [.dead, lsP (over r p)] := by
      rw [List.append_assoc]
      rfl
    have e2 : (s ++ [So.dead]).length = s.length + 1 := by simp
    rw [e1, e2] at rb
    exact w_ret (e_call (es_cons (e_call (es_cons (e_call (es_cons fz es_nil) (m_edges_of (by omega) (by omega))) (es_cons (e_lstT (es_cons (e_var rfl) (es_cons (e_o2 (e_var rfl) e_cst v_add) es_nil)) rfl) es_nil)) ul) es_nil) rb) ⟨_, rfl, by
      unfold trim
      rw [if_neg]
      simp [below]
      intro h
      omega⟩
/-- two lists of the store, told -/
structure TwoAt (s : Sto) (i j : Nat) (a b : Row) : Prop where
  ha : s[i]? = some (lsP a)
  hb : s[j]? = some (lsP b)
  la : a.length ≤ 100000
  lb : b.length ≤ 100000
  ga : Good a
  gb : Good b
theorem m_heads_l [Has M "is_whole" d_is_whole] [Has M "is_stretch" d_is_stretch] [Has M "is_row" d_is_row] [Has M "plain" d_plain] [Has M "need_row" d_need_row] [Has M "heads" d_heads] (hk : 5 ≤ k) {i : Nat} {r : Row} (h : s[i]? = some (lsP r)) (hr : r.length ≤ 1000000) (g : Good r) : lev M k "heads" [.loc i] s = some (.d (.int (cnt r)), s) := by
  refine m_lend (ds := [.list (r.map prI)]) rfl (by unfold allM; rw [datV_row h]; rfl) rfl ?_
  have := m_heads (M := M) (k := k) (s := s) (t := false) (m := r.map fun p => (true, p)) (by omega) (by rw [List.length_map]; omega) (by rw [rowOf_row]; exact g)
  rw [mr_row, rowOf_row] at this
  exact this
/-- a turn of a told pair, which stays -/
theorem m_turned_by_tl [Has M "is_whole" d_is_whole] [Has M "is_stretch" d_is_stretch] [Has M "is_row" d_is_row] [Has M "plain" d_plain] [Has M "need_row" d_need_row] [Has M "plain'" d_plain_t] [Has M "need_row'" d_need_row_t] [Has M "edges_of" d_edges_of] [Has M "row_by'" d_row_by_t] [Has M "unlike" d_unlike] [Has M "turned_over'" d_turned_over_t] [Has M "heads" d_heads] [Has M "turned_by'" d_turned_by_t] [c : Cons M "ONE" onE]
    (hk : 7 ≤ k) {i0 j0 : Nat} {a b : Row} {w : Bool} (h : TwoAt s i0 j0 a b) :
    ∃ t i j, Dt t ∧ t[i]? = some (lsP (turn1 a b w)) ∧ t[j]? = some (lsP (turn2 a b w)) ∧ lev M k "turned_by'" [.mix [.loc i0, .loc j0], .d (.str (whoS w))] s = some (.mix [.loc (s.length + i), .loc (s.length + j)], s ++ t) := by
  have grow : ∀ {u : Nat} {o : So} (t : Sto), s[u]? = some o → (s ++ t)[u]? = some o := fun {u o} t h => by
    rw [List.getElem?_append_left (List.getElem?_eq_some_iff.mp h).1]
    exact h
  cases w with
  | true =>
    obtain ⟨t, i, hd, hi, e1⟩ := m_over_x (M := M) (k := k - 1) (s := s) (x := .loc i0) (p := cnt b) (by omega) (m_need_row_tl (by omega) h.ha (by have := h.la; omega) h.ga) h.la h.ga (cnt_nn h.gb)
    have hil : i < t.length := (List.getElem?_eq_some_iff.mp hi).1
    have e2 := m_plain_tl (M := M) (k := k - 1) (s := s ++ t) (by omega) (grow t h.hb) (by have := h.lb; omega)
    rw [List.append_assoc, List.length_append] at e2
    refine ⟨t ++ [lsP b], i, t.length, Dt.app hd (Dt.one (isDt_row2 _)), by rw [List.getElem?_append_left hil]; exact hi, at_new, d_open (by omega) rfl rfl ?_⟩
    show Wl _ (exB _ b_turned_by_t [some (.mix [.loc i0, .loc j0]), some (.d (.str (whoS true))), none, none] s)
    unfold b_turned_by_t
    refine w_asg (v := .mix [.loc i0, .loc j0]) (s1 := s) (r1 := [some (.mix [.loc i0, .loc j0]), some (.d (.str (whoS true))), some (.loc i0), some (.loc j0)]) (e_var rfl) rfl ?_
    refine w_if (e_o2 (e_var rfl) (e_glb (by rw [levG_con]; exact c.h)) v_eqS) (fun h2 => ?_) fun h => ?_
    · exact w_ret (e_tupM (es_cons (e_call (es_cons (e_var rfl) (es_cons (e_call (es_cons (e_var rfl) es_nil) (m_heads_l (by omega) h.hb (by have := h.lb; omega) h.gb)) es_nil)) e1) (es_cons (e_call (es_cons (e_var rfl) es_nil) e2) es_nil)) rfl) (out_mix (by omega))
    · rw [who_one] at h
      cases h
  | false =>
    have e1 := m_plain_tl (M := M) (k := k - 1) (s := s) (by omega) h.ha (by have := h.la; omega)
    obtain ⟨t, i, hd, hi, e2⟩ := m_over_x (M := M) (k := k - 1) (s := s ++ [lsP a]) (x := .loc j0) (p := cnt a) (by omega) (m_need_row_tl (by omega) (grow _ h.hb) (by have := h.lb; omega) h.gb) h.lb h.gb (cnt_nn h.ga)
    rw [List.append_assoc, List.length_append, List.length_singleton] at e2
    refine ⟨[lsP a] ++ t, 0, 1 + i, Dt.app (Dt.one (isDt_row2 _)) hd, rfl, by rw [List.getElem?_append_right (by simp)]; rw [show 1 + i - [lsP a].length = i by simp]; exact hi, d_open (by omega) rfl rfl ?_⟩
    show Wl _ (exB _ b_turned_by_t [some (.mix [.loc i0, .loc j0]), some (.d (.str (whoS false))), none, none] s)
    unfold b_turned_by_t
    refine w_asg (v := .mix [.loc i0, .loc j0]) (s1 := s) (r1 := [some (.mix [.loc i0, .loc j0]), some (.d (.str (whoS false))), some (.loc i0), some (.loc j0)]) (e_var rfl) rfl ?_
    refine w_if (e_o2 (e_var rfl) (e_glb (by rw [levG_con]; exact c.h)) v_eqS) (fun h => ?_) fun h2 => ?_
    · rw [who_one] at h
      cases h
    · rw [Nat.add_assoc] at e2
      exact w_ret (e_tupM (es_cons (e_call (es_cons (e_var rfl) es_nil) e1) (es_cons (e_call (es_cons (e_var rfl) (es_cons (e_call (es_cons (e_var rfl) es_nil) (m_heads_l (by omega) (grow _ h.ha) (by have := h.la; omega) h.ga)) es_nil)) e2) es_nil)) rfl) (out_mix (by omega))
end
end MP.P


/-! L_byB: what by_turns of the laws k20, k23 tells. -/
namespace MP.P
open PySem MP
section
variable {M : Md} {k : Nat} {s : Sto}
/-- who turns next, and behind so many turns -/
def whoI (w : Bool) : Nat → Bool
  | 0 => w
  | n + 1 => !whoI w n
/-- the pair behind so many turns by turns -/
def atP (p : Row × Row) (w : Bool) : Nat → Row × Row
  | 0 => p
  | n + 1 => stepP (atP p w n) (whoI w n)
theorem at_ok {n : Int} {p : Row × Row} (h : PairOk n p) (w : Bool) : ∀ i, PairOk n (atP p w i)
  | 0 => h
  | i + 1 => pair_step (at_ok h w i) _
theorem at_len {n : Int} {p : Row × Row} (h : PairOk n p) (w : Bool) : ∀ i, (atP p w i).1.length ≤ p.1.length + i ∧ (atP p w i).2.length ≤ p.2.length + i
  | 0 => ⟨Nat.le_refl _, Nat.le_refl _⟩
  | i + 1 => by
    have h1 := at_len h w i
    have h2 := step_len (at_ok h w i) (whoI w i)
    show (stepP (atP p w i) (whoI w i)).1.length ≤ _ ∧ (stepP (atP p w i) (whoI w i)).2.length ≤ _
    omega
/-- the pairs ahead of and behind each turn -/
def byP (p : Row × Row) (w : Bool) (n : Nat) : List (Row × Row) := (List.range (n + 1)).map (atP p w)
theorem by_zero (p : Row × Row) (w : Bool) : byP p w 0 = [p] := rfl
theorem by_succ (p : Row × Row) (w : Bool) (n : Nat) : byP p w (n + 1) = byP p w n ++ [atP p w (n + 1)] := by
  unfold byP
  rw [List.range_succ, List.map_append]
  rfl
theorem by_len (p : Row × Row) (w : Bool) (n : Nat) : (byP p w n).length = n + 1 := by
  unfold byP
  rw [List.length_map, List.length_range]
theorem by_last (p : Row × Row) (w : Bool) (n : Nat) : (byP p w n).getLast? = some (atP p w n) := by
  unfold byP
  rw [List.range_succ, List.map_append]
  exact List.getLast?_concat
theorem by_cons (p : Row × Row) (w : Bool) (n : Nat) : byP p w n = p :: (byP p w n).tail := by
  unfold byP
  rw [List.range_succ_eq_map]
  rfl
abbrev mostD : PyData := .int 299
theorem m_who_else [Has M "who_else" d_who_else] [c1 : Cons M "ONE" onE] [c2 : Cons M "OTHER" otheR] (hk : 1 ≤ k) {w : Bool} : lev M k "who_else" [.d (.str (whoS w))] s = some (.d (.str (whoS !w)), s) := by
  refine d_clean (by omega) rfl rfl rfl ?_
  show Wl _ (exB _ b_who_else [some (.d (.str (whoS w)))] [])
  unfold b_who_else
  have e1 : (whoS w == ("other" : Str)) = !w := by cases w <;> decide +kernel
  refine w_ret (s1 := []) (v := .d (.str (whoS !w))) (e_ites (t := !w) (e_o2 (e_var rfl) (e_glb (by rw [levG_con]; exact c2.h)) (by rw [v_eqS, e1])) (fun h => ?_) fun h => ?_) ⟨rfl⟩
  · have : w = false := by simpa using h
    subst this
    exact e_glb (by rw [levG_con]; exact c1.h)
  · have : w = true := by simpa using h
    subst this
    exact e_glb (by rw [levG_con]; exact c2.h)
theorem twL_last {l : List (Row × Row)} {p : Row × Row} {n : Nat} {s : Sto} (h : s[n]? = some (.lst (l.map fun q => Vl.d (tw q)))) (hp : l.getLast? = some p) : o2v .idx s (.loc n) (.d (.int (-1))) = some (.d (tw p)) := by
  rw [v_ixP h, atI_last, List.getLast?_map, hp]
  rfl
theorem lsT_all (l : List (Row × Row)) : allD (l.map fun q => Vl.d (tw q)) = some (l.map tw) := allD_f
theorem isDt_tw (l : List (Row × Row)) : isDt (.lst (l.map fun q => Vl.d (tw q))) = true := by
  show (allD _).isSome = true
  rw [lsT_all]
  rfl
theorem m_by [Has M "is_whole" d_is_whole] [Has M "is_stretch" d_is_stretch] [Has M "is_row" d_is_row] [Has M "plain" d_plain] [Has M "need_row" d_need_row] [Has M "edges_of" d_edges_of] [Has M "row_by" d_row_by] [Has M "unlike" d_unlike] [Has M "turned_over" d_turned_over] [Has M "heads" d_heads] [Has M "turned_by" d_turned_by] [Has M "is_pair" d_is_pair] [Has M "plain_pair" d_plain_pair] [Has M "need_who" d_need_who] [Has M "who_else" d_who_else] [Has M "by_turns*" d_by_turns] [Cons M "ONE" onE] [Cons M "OTHER" otheR] [Cons M "WHOS" whosD] [c : Cons M "MOST_TURNS" mostD]
    (hk : 8 ≤ k) {n : Int} {t t1 t2 : Bool} {m1 m2 : MRow} {w : Bool} {j : Nat} (hj : j ≤ 299) (h1 : m1.length ≤ 50000) (h2 : m2.length ≤ 50000) (h : PairOk n (rowOf m1, rowOf m2)) :
    lev M k "by_turns*" [.d (sq t [mr t1 m1, mr t2 m2]), .d (.str (whoS w)), .d (.int (j : Int))] s = some (.d (.list ((byP (rowOf m1, rowOf m2) w j).map tw)), s) := by
  refine d_clean (by omega) rfl rfl rfl ?_
  show Wl _ (exB _ b_by_turns [some (.d (sq t [mr t1 m1, mr t2 m2])), some (.d (.str (whoS w))), some (.d (.int (j : Int))), none, none, none] [])
  unfold b_by_turns
  refine w_asg (v := .loc 0) (s1 := [.lst ((byP (rowOf m1, rowOf m2) w 0).map fun q => Vl.d (tw q))]) (e_lstF (s1 := []) (es_cons (e_call (es_cons (e_var rfl) es_nil) (m_plain_pair (by omega) (by omega) (by omega) h.a h.b)) es_nil)) rfl ?_
  refine w_ex (e_call (es_cons (e_var rfl) es_nil) (m_need_who (by omega))) ?_
  refine w_if (t := false) (e_bop (b_or (b := false) (e_not (b := true) (e_call (es_cons (e_var rfl) (es_cons e_cst es_nil)) (by rw [m_is_whole (by omega), decide_eq_true (by omega)]))) fun _ => b_one (e_o2 (e_var rfl) (e_glb (by rw [levG_con]; exact c.h)) (by rw [v_gt, decide_eq_false (by omega)])))) (fun h => by cases h) fun _ => ?_
  refine w_asg (e_var rfl) rfl ?_
  apply w_for (l := List.range j) (φ := fun i : Nat => Vl.d (.int (i : Int))) (g := []) (s1 := [.lst ((byP (rowOf m1, rowOf m2) w 0).map fun q => Vl.d (tw q))]) (fun pre e s1 => ∃ x, s1 = [.lst ((byP (rowOf m1, rowOf m2) w pre.length).map fun q => Vl.d (tw q))] ∧ e = [some (.d (sq t [mr t1 m1, mr t2 m2])), some (.d (.str (whoS w))), some (.d (.int (j : Int))), some (.loc 0), some (.d (.str (whoS (whoI w pre.length)))), x])
  · have := i_rng1 (G := levG M (k - 1)) (r := [some (.d (sq t [mr t1 m1, mr t2 m2])), some (.d (.str (whoS w))), some (.d (.int (j : Int))), some (.loc 0), some (.d (.str (whoS w))), none]) (s := [.lst ((byP (rowOf m1, rowOf m2) w 0).map fun q => Vl.d (tw q))]) (a := .var 2) (e_var rfl) (by unfold smallI; omega)
    exact this
  · exact ⟨none, rfl, rfl⟩
  · rintro pre i post e s1 hz ⟨x, rfl, rfl⟩
    obtain ⟨hi, hil⟩ := range_mid hz
    have ok := at_ok h w pre.length
    have ln := at_len h w pre.length
    simp only [List.length_map] at ln
    refine ⟨okGb_nil, [some (.d (sq t [mr t1 m1, mr t2 m2])), some (.d (.str (whoS w))), some (.d (.int (j : Int))), some (.loc 0), some (.d (.str (whoS (whoI w pre.length)))), some (.d (.int (i : Int)))], rfl, ?_⟩
    unfold b_by_turns_1
    refine w_ex (e_lm (n := 0) (zs := (byP (rowOf m1, rowOf m2) w pre.length).map fun q => Vl.d (tw q)) (e_var rfl) rfl (es_cons (e_call (es_cons (e_o2 (e_var rfl) (e_o1 e_cst rfl) (twL_last rfl (by_last _ _ _))) (es_cons (e_var rfl) es_nil)) (m_turned_by (by omega) (by omega) (by omega) ok.a ok.b)) es_nil) rfl (lm_app (by rw [List.length_map, by_len, sizeL]; omega))) ?_
    refine w_asg (e_call (es_cons (e_var rfl) es_nil) (m_who_else (by omega))) rfl (s_done ⟨some (.d (.int (i : Int))), ?_, ?_⟩)
    · rw [List.length_append, List.length_singleton, by_succ, List.map_append]
      rfl
    · rw [List.length_append, List.length_singleton]
      rfl
  · rintro e s1 ⟨x, rfl, rfl⟩
    rw [List.length_range]
    exact ⟨okGb_nil, w_ret (e_frzL (n := 0) (e_var rfl) rfl (lsT_all _)) ⟨rfl⟩⟩
theorem m_due [Has M "_law_count" d_law_count] [Has M "_law_has" d_law_has] [Has M "_law_flip" d_law_flip] [Has M "_law_turn" d_law_turn] [Has M "_law_due" d_law_due] (hk : 4 ≤ k) {n : Int} {p : Row × Row} {w : Bool} {j : Nat} (hj : j ≤ 10000) (h1 : p.1.length ≤ 50000) (h2 : p.2.length ≤ 50000) (h : PairOk n p) :
    lev M k "_law_due" [.d (tw p), .d (.str (whoS w)), .d (.int (j : Int))] s = some (.d (.list ((byP p w j).map tw)), s) := by
  refine d_clean (by omega) rfl rfl rfl ?_
  show Wl _ (exB _ b_law_due [some (.d (tw p)), some (.d (.str (whoS w))), some (.d (.int (j : Int))), none, none] [])
  unfold b_law_due
  refine w_asg (v := .loc 0) (s1 := [.lst ((byP p w 0).map fun q => Vl.d (tw q))]) (e_lstF (s1 := []) (es_cons (e_var rfl) es_nil)) rfl ?_
  apply w_for (l := List.range j) (φ := fun i : Nat => Vl.d (.int (i : Int))) (g := []) (s1 := [.lst ((byP p w 0).map fun q => Vl.d (tw q))]) (fun pre e s1 => ∃ x, s1 = [.lst ((byP p w pre.length).map fun q => Vl.d (tw q))] ∧ e = [some (.d (tw p)), some (.d (.str (whoS (whoI w pre.length)))), some (.d (.int (j : Int))), some (.loc 0), x])
  · have := i_rng1 (G := levG M (k - 1)) (r := [some (.d (tw p)), some (.d (.str (whoS w))), some (.d (.int (j : Int))), some (.loc 0), none]) (s := [.lst ((byP p w 0).map fun q => Vl.d (tw q))]) (a := .var 2) (e_var rfl) (by unfold smallI; omega)
    exact this
  · exact ⟨none, rfl, rfl⟩
  · rintro pre i post e s1 hz ⟨x, rfl, rfl⟩
    obtain ⟨hi, hil⟩ := range_mid hz
    have ok := at_ok h w pre.length
    have ln := at_len h w pre.length
    refine ⟨okGb_nil, [some (.d (tw p)), some (.d (.str (whoS (whoI w pre.length)))), some (.d (.int (j : Int))), some (.loc 0), some (.d (.int (i : Int)))], rfl, ?_⟩
    unfold b_law_due_1
    refine w_ex (e_lm (n := 0) (zs := (byP p w pre.length).map fun q => Vl.d (tw q)) (e_var rfl) rfl (es_cons (e_call (es_cons (e_o2 (e_var rfl) (e_o1 e_cst rfl) (twL_last rfl (by_last _ _ _))) (es_cons (e_var rfl) es_nil)) (m_lturn (by omega) (by omega) (by omega) ok.a ok.b)) es_nil) rfl (lm_app (by rw [List.length_map, by_len, sizeL]; omega))) ?_
    have ix : ∀ (w : Bool) (s : Sto), o2v .idx s (.d (.list [.str "one", .str "other"])) (.d (.int (if w then 1 else 0))) = some (.d (.str (whoS !w))) := fun w s => by cases w <;> rfl
    have e1 : ∀ w : Bool, (whoS w == ("one" : Str)) = w := who_one
    refine w_asg (e_o2 (e_lstT (es_cons e_cst (es_cons e_cst es_nil)) rfl) (e_bi (es_cons (e_o2 (e_var rfl) e_cst (by rw [v_eqS, e1])) es_nil) b_intB) (ix _ _)) rfl (s_done ⟨some (.d (.int (i : Int))), ?_, ?_⟩)
    · rw [List.length_append, List.length_singleton, by_succ, List.map_append]
      rfl
    · rw [List.length_append, List.length_singleton]
      rfl
  · rintro e s1 ⟨x, rfl, rfl⟩
    rw [List.length_range]
    exact ⟨okGb_nil, w_ret (e_frzL (n := 0) (e_var rfl) rfl (lsT_all _)) ⟨rfl⟩⟩
/-- pairs told, at these places behind n -/
def mixQ (n : Nat) (q : Nat × Nat) : Vl := .mix [.loc (n + q.1), .loc (n + q.2)]
def HoldP (T : Sto) : List (Nat × Nat) → List (Row × Row) → Prop
  | [], [] => True
  | q :: qs, r :: rs => (T[q.1]? = some (lsP r.1) ∧ T[q.2]? = some (lsP r.2)) ∧ HoldP T qs rs
  | _, _ => False
theorem HoldP.imp {T T' : Sto} : ∀ {qs : List (Nat × Nat)} {rs : List (Row × Row)}, (∀ q ∈ qs, ∀ i, (i = q.1 ∨ i = q.2) → ∀ r, T[i]? = some (lsP r) → T'[i]? = some (lsP r)) → HoldP T qs rs → HoldP T' qs rs
  | [], [], _, _ => trivial
  | q :: qs, r :: rs, h, ⟨⟨h1, h2⟩, h3⟩ => ⟨⟨h q (by simp) _ (.inl rfl) _ h1, h q (by simp) _ (.inr rfl) _ h2⟩, HoldP.imp (fun q hq => h q (by simp [hq])) h3⟩
  | [], _ :: _, _, h => h.elim
  | _ :: _, [], _, h => h.elim
theorem HoldP.snoc {T : Sto} {q : Nat × Nat} {r : Row × Row} (h : T[q.1]? = some (lsP r.1) ∧ T[q.2]? = some (lsP r.2)) : ∀ {qs : List (Nat × Nat)} {rs : List (Row × Row)}, HoldP T qs rs → HoldP T (qs ++ [q]) (rs ++ [r])
  | [], [], _ => ⟨h, trivial⟩
  | q :: qs, r :: rs, ⟨h1, h3⟩ => ⟨h1, HoldP.snoc h h3⟩
  | [], _ :: _, h => h.elim
  | _ :: _, [], h => h.elim
theorem HoldP.last {T : Sto} : ∀ {qs : List (Nat × Nat)} {rs : List (Row × Row)} {r : Row × Row}, HoldP T qs rs → rs.getLast? = some r → ∃ q, qs.getLast? = some q ∧ T[q.1]? = some (lsP r.1) ∧ T[q.2]? = some (lsP r.2)
  | [], [], r, _, e => by cases e
  | [q], [p], r, ⟨h1, _⟩, e => by
    cases e
    exact ⟨q, rfl, h1⟩
  | q :: q2 :: qs, p :: p2 :: rs, r, ⟨_, h3⟩, e => by
    obtain ⟨x, e1, e2⟩ := HoldP.last h3 (r := r) (by rw [← e]; rfl)
    exact ⟨x, by rw [← e1]; rfl, e2⟩
  | [_], _ :: _ :: _, _, ⟨_, h⟩, _ => h.elim
  | _ :: _ :: _, [_], _, ⟨_, h⟩, _ => h.elim
  | [], _ :: _, _, h, _ => h.elim
  | _ :: _, [], _, h, _ => h.elim
theorem dat_hold {s T : Sto} {m : Nat} : ∀ {qs : List (Nat × Nat)} {rs : List (Row × Row)}, HoldP T qs rs → allM (datN (s ++ T) (m + 2)) (qs.map (mixQ s.length)) = some (rs.map tw)
  | [], [], _ => rfl
  | q :: qs, r :: rs, ⟨h1, h3⟩ => by
    rw [List.map_cons]
    unfold allM
    have := dat_two (s := s ++ T) (n := m) (told_at h1.1) (told_at h1.2)
    unfold mixQ
    rw [this]
    have ih := dat_hold (s := s) (m := m) h3
    unfold mixQ at ih
    rw [ih]
    rfl
  | [], _ :: _, h => h.elim
  | _ :: _, [], h => h.elim
/-- by_turns has told these: the first pair's rows first, then the list -/
structure ByT (n : Nat) (T : Sto) (qs : List (Nat × Nat)) (rs : List (Row × Row)) : Prop where
  l : T[2]? = some (.lst (((0, 1) :: qs).map (mixQ n)))
  h : HoldP T ((0, 1) :: qs) rs
  f : ∀ q ∈ qs, 3 ≤ q.1 ∧ 3 ≤ q.2
theorem ByT.dat {s T : Sto} {qs : List (Nat × Nat)} {rs : List (Row × Row)} (h : ByT s.length T qs rs) : datV (s ++ T) (.loc (s.length + 2)) = some (.list (rs.map tw)) := by
  show (match (s ++ T)[s.length + 2]? with
      | some (.lst vs) => (allM (datN (s ++ T) 5) vs).map PyData.list
      | _ => none) = _
  rw [told_at h.l]
  show (allM (datN (s ++ T) (3 + 2)) _).map PyData.list = _
  rw [dat_hold h.h]
  rfl
theorem m_by_t [Has M "is_whole" d_is_whole] [Has M "is_stretch" d_is_stretch] [Has M "is_row" d_is_row] [Has M "plain" d_plain] [Has M "need_row" d_need_row] [Has M "plain'" d_plain_t] [Has M "need_row'" d_need_row_t] [Has M "edges_of" d_edges_of] [Has M "row_by'" d_row_by_t] [Has M "unlike" d_unlike] [Has M "turned_over'" d_turned_over_t] [Has M "heads" d_heads] [Has M "turned_by'" d_turned_by_t] [Has M "is_pair" d_is_pair] [Has M "plain_pair'" d_plain_pair_t] [Has M "need_who" d_need_who] [Has M "who_else" d_who_else] [Has M "by_turns'*" d_by_turns_t] [Cons M "ONE" onE] [Cons M "OTHER" otheR] [Cons M "WHOS" whosD] [c : Cons M "MOST_TURNS" mostD]
    (hk : 8 ≤ k) {n : Int} {t t1 t2 : Bool} {m1 m2 : MRow} {w : Bool} {j : Nat} (hj : j ≤ 299) (h1 : m1.length ≤ 50000) (h2 : m2.length ≤ 50000) (h : PairOk n (rowOf m1, rowOf m2)) :
    ∃ T qs, ByT s.length T qs (byP (rowOf m1, rowOf m2) w j) ∧ lev M k "by_turns'*" [.d (sq t [mr t1 m1, mr t2 m2]), .d (.str (whoS w)), .d (.int (j : Int))] s = some (.loc (s.length + 2), s ++ T) := by
  have main := d_openE (M := M) (k := k) (x := "by_turns'*") (s := s) (vs := [.d (sq t [mr t1 m1, mr t2 m2]), .d (.str (whoS w)), .d (.int (j : Int))]) (ι := Sto × List (Nat × Nat)) (R := fun y => ByT s.length y.1 y.2 (byP (rowOf m1, rowOf m2) w j)) (v := fun _ => .loc (s.length + 2)) (s' := fun y => s ++ y.1) (by omega) rfl rfl ?_
  · obtain ⟨⟨T, qs⟩, q1, q2⟩ := main
    exact ⟨T, qs, q1, q2⟩
  show Wl _ (exB _ b_by_turns_t [some (.d (sq t [mr t1 m1, mr t2 m2])), some (.d (.str (whoS w))), some (.d (.int (j : Int))), none, none, none] s)
  unfold b_by_turns_t
  have l0 : (s ++ [lsP (rowOf m1), lsP (rowOf m2)]).length = s.length + 2 := by simp
  have a0 : s ++ [lsP (rowOf m1), lsP (rowOf m2)] ++ [.lst [mixQ s.length (0, 1)]] = s ++ [lsP (rowOf m1), lsP (rowOf m2), .lst [mixQ s.length (0, 1)]] := by
    rw [List.append_assoc]
    rfl
  have ef : evE (levG M (k - 1)) (.lst false (.cons (.call "plain_pair'" (.cons (.var 0) .nil)) .nil)) [some (.d (sq t [mr t1 m1, mr t2 m2])), some (.d (.str (whoS w))), some (.d (.int (j : Int))), none, none, none] s = some (.loc (s.length + 2), s ++ [lsP (rowOf m1), lsP (rowOf m2), .lst [mixQ s.length (0, 1)]]) := by
    refine (e_lstF (es_cons (e_call (es_cons (e_var rfl) es_nil) (m_plain_pair_t (M := M) (k := k - 1) (s := s) (t := t) (t1 := t1) (t2 := t2) (m1 := m1) (m2 := m2) (by omega) (by omega) (by omega) h.a h.b)) es_nil)).trans ?_
    rw [l0, ← a0]
    rfl
  refine w_asg ef rfl ?_
  refine w_ex (e_call (es_cons (e_var rfl) es_nil) (m_need_who (by omega))) ?_
  refine w_if (t := false) (e_bop (b_or (b := false) (e_not (b := true) (e_call (es_cons (e_var rfl) (es_cons e_cst es_nil)) (by rw [m_is_whole (by omega), decide_eq_true (by omega)]))) fun _ => b_one (e_o2 (e_var rfl) (e_glb (by rw [levG_con]; exact c.h)) (by rw [v_gt, decide_eq_false (by omega)])))) (fun h => by cases h) fun _ => ?_
  refine w_asg (e_var rfl) rfl ?_
  apply w_for (l := List.range j) (φ := fun i : Nat => Vl.d (.int (i : Int))) (g := []) (s1 := s ++ [lsP (rowOf m1), lsP (rowOf m2), .lst [mixQ s.length (0, 1)]]) (fun pre e s1 => ∃ T qs x, ByT s.length T qs (byP (rowOf m1, rowOf m2) w pre.length) ∧ s1 = s ++ T ∧ e = [some (.d (sq t [mr t1 m1, mr t2 m2])), some (.d (.str (whoS w))), some (.d (.int (j : Int))), some (.loc (s.length + 2)), some (.d (.str (whoS (whoI w pre.length)))), x])
  · have := i_rng1 (G := levG M (k - 1)) (r := [some (.d (sq t [mr t1 m1, mr t2 m2])), some (.d (.str (whoS w))), some (.d (.int (j : Int))), some (.loc (s.length + 2)), some (.d (.str (whoS w))), none]) (s := s ++ [lsP (rowOf m1), lsP (rowOf m2), .lst [mixQ s.length (0, 1)]]) (a := .var 2) (e_var rfl) (by unfold smallI; omega)
    exact this
  · exact ⟨_, [], none, ⟨rfl, ⟨⟨rfl, rfl⟩, trivial⟩, fun _ h => by cases h⟩, rfl, rfl⟩
  · rintro pre i post e s1 hz ⟨T, qs, x, hT, rfl, rfl⟩
    obtain ⟨hi, hil⟩ := range_mid hz
    have ok := at_ok h w pre.length
    have ln := at_len h w pre.length
    simp only [List.length_map] at ln
    obtain ⟨q, hq, hqa, hqb⟩ := HoldP.last hT.h (by_last _ _ _)
    have hTl : 2 < T.length := (List.getElem?_eq_some_iff.mp hT.l).1
    obtain ⟨t', i', j', p1, p2, p3, p4⟩ := m_turned_by_tl (M := M) (k := k - 1) (s := s ++ T) (w := whoI w pre.length) (by omega) ⟨told_at hqa, told_at hqb, by omega, by omega, ok.a, ok.b⟩
    rw [List.append_assoc, List.length_append, Nat.add_assoc, Nat.add_assoc] at p4
    have ix : o2v .idx (s ++ T) (.loc (s.length + 2)) (.d (.int (-1))) = some (mixQ s.length q) := by
      rw [v_ixP (told_at hT.l), atI_last, List.getLast?_map, hq]
      rfl
    have hl2 : (T ++ t')[2]? = some (.lst (((0, 1) :: qs).map (mixQ s.length))) := by rw [List.getElem?_append_left hTl]; exact hT.l
    have ql : qs.length = pre.length := by
      have : ∀ {qs : List (Nat × Nat)} {rs : List (Row × Row)}, HoldP T qs rs → qs.length = rs.length := fun {qs} => by
        induction qs with
        | nil => intro rs h; cases rs with
          | nil => rfl
          | cons a b => exact h.elim
        | cons q qs ih => intro rs h; cases rs with
          | nil => exact h.elim
          | cons a b => exact congrArg Nat.succ (ih h.2)
      have := this hT.h
      rw [by_len] at this
      simpa using this
    refine ⟨okGb_nil, [some (.d (sq t [mr t1 m1, mr t2 m2])), some (.d (.str (whoS w))), some (.d (.int (j : Int))), some (.loc (s.length + 2)), some (.d (.str (whoS (whoI w pre.length)))), some (.d (.int (i : Int)))], rfl, ?_⟩
    unfold b_by_turns_t_1
    refine w_ex (e_lm (e_var rfl) (told_at hT.l) (es_cons (e_call (es_cons (e_o2 (e_var rfl) (e_o1 e_cst rfl) ix) (es_cons (e_var rfl) es_nil)) p4) es_nil) (told_at hl2) (lm_app (by rw [List.length_map, List.length_cons, ql, sizeL]; omega))) ?_
    refine w_asg (e_call (es_cons (e_var rfl) es_nil) (m_who_else (by omega))) rfl (s_done ?_)
    have hlen : (T ++ t').length = T.length + t'.length := List.length_append
    have ne : ∀ {u : Nat} {o o2 : So}, u ≠ 2 → (T ++ t')[u]? = some o → ((T ++ t').set 2 o2)[u]? = some o := fun hu h => by
      rw [List.getElem?_set_ne (Ne.symm hu)]
      exact h
    have lf : ∀ {u : Nat} {o : So}, T[u]? = some o → (T ++ t')[u]? = some o := fun {u o} h => by
      rw [List.getElem?_append_left (List.getElem?_eq_some_iff.mp h).1]
      exact h
    have rt : ∀ {u : Nat} {o : So}, t'[u]? = some o → (T ++ t')[T.length + u]? = some o := fun {u o} h => told_at h
    refine ⟨(T ++ t').set 2 (.lst (((0, 1) :: qs).map (mixQ s.length) ++ [mixQ s.length (T.length + i', T.length + j')])), qs ++ [(T.length + i', T.length + j')], some (.d (.int (i : Int))), ⟨?_, ?_, ?_⟩, ?_, ?_⟩
    · rw [List.getElem?_set_self (by omega)]
      simp
    · rw [List.length_append, List.length_singleton, by_succ]
      refine HoldP.snoc (qs := (0, 1) :: qs) ⟨ne (by omega) (rt p2), ne (by omega) (rt p3)⟩ (HoldP.imp (fun q hq i hi r hr => ne ?_ (lf hr)) hT.h)
      rcases List.mem_cons.mp hq with e | e
      · subst e
        simp only at hi
        omega
      · have := hT.f q e
        omega
    · intro q hq
      rcases List.mem_append.mp hq with e | e
      · exact hT.f q e
      · rw [List.mem_singleton.mp e]
        exact ⟨by show 3 ≤ T.length + i'; omega, by show 3 ≤ T.length + j'; omega⟩
    · rw [List.set_append_right _ _ (by omega), show s.length + 2 - s.length = 2 by omega]
      rfl
    · rw [List.length_append, List.length_singleton]
      rfl
  · rintro e s1 ⟨T, qs, x, hT, rfl, rfl⟩
    rw [List.length_range] at hT
    refine ⟨okGb_nil, w_ret (e_var rfl) ⟨(T, qs), hT, ⟨_, rfl, ?_⟩⟩⟩
    unfold trim
    rw [if_neg]
    have : below s.length (.loc (s.length + 2)) = false := decide_eq_false (by omega)
    rw [this, Bool.false_and]
    decide
end
end MP.P


/-! R_k20: the law. -/
namespace MP.P
open PySem MP
section
variable {M : Md} {k : Nat} {s : Sto}
theorem san_byP {l : List (Row × Row)} (h : ∀ p ∈ l, p.1.length ≤ 1000000 ∧ p.2.length ≤ 1000000) (hl : l.length ≤ 1000000) : San 4 (.list (l.map tw)) := by
  refine .list (fun x hx => ?_) (by rw [List.length_map]; exact hl)
  obtain ⟨p, hp, rfl⟩ := List.mem_map.mp hx
  exact san_tw (h p hp).1 (h p hp).2
theorem by_small {n : Int} {p : Row × Row} (h : PairOk n p) (w : Bool) {j : Nat} (hj : j ≤ 299) (h1 : p.1.length ≤ 30) (h2 : p.2.length ≤ 30) : ∀ q ∈ byP p w j, q.1.length ≤ 1000000 ∧ q.2.length ≤ 1000000 := fun q hq => by
  obtain ⟨i, hi, rfl⟩ := List.mem_map.mp hq
  have := at_len h w i
  have := List.mem_range.mp hi
  omega
theorem e_slP {G : Cn} {r : Nv} {s s1 s2 s3 : Sto} {a : Ex} {lo hi : Ox} {n : Nat} {vs : List Vl} {l h : Option Vl} {l' h' : Option Int} (q : evE G a r s = some (.loc n, s1)) (q2 : evO G lo r s1 = some (l, s2)) (q3 : evO G hi r s2 = some (h, s3)) (q4 : optI l = some l') (q5 : optI h = some h') (q6 : s3[n]? = some (.lst vs)) (q7 : allD vs = none) :
    evE G (.sl a lo hi) r s = some (.loc s3.length, s3 ++ [.lst (cutD vs l' h')]) := by
  rw [evE, q, bnd_some, q2, bnd_some, q3, bnd_some, q4, q5]
  show (match s3[n]? with
    | some (.lst vs) => match allD vs with
      | some xs => some (Vl.d (.list (cutD xs l' h')), s3)
      | none => newL false (cutD vs l' h') s3
    | _ => none) = _
  rw [q6]
  simp only [q7]
  rfl
theorem cut_tl {α : Type} (x : α) (xs : List α) : cutD (x :: xs) (some 1) none = xs := by
  unfold cutD
  have h1 : HT.sIx (x :: xs).length 0 (some 1) = 1 := by
    have := HT.sIx_nat (n := (x :: xs).length) (d := 0) 1
    simpa using this
  rw [h1, HT.sIx_none]
  simp
theorem by_tail (p : Row × Row) (w : Bool) (j : Nat) : (byP p w j) = p :: (byP p w j).tail := by_cons p w j
theorem m_right [Has M "is_whole" d_is_whole] [Has M "is_stretch" d_is_stretch] [Has M "is_row" d_is_row] [Has M "plain" d_plain] [Has M "need_row" d_need_row] [Has M "plain'" d_plain_t] [Has M "need_row'" d_need_row_t] [Has M "edges_of" d_edges_of] [Has M "row_by" d_row_by] [Has M "row_by'" d_row_by_t] [Has M "unlike" d_unlike] [Has M "turned_over" d_turned_over] [Has M "turned_over'" d_turned_over_t] [Has M "heads" d_heads] [Has M "turned_by" d_turned_by] [Has M "turned_by'" d_turned_by_t] [Has M "is_pair" d_is_pair] [Has M "plain_pair" d_plain_pair] [Has M "plain_pair'" d_plain_pair_t] [Has M "need_who" d_need_who] [Has M "who_else" d_who_else] [Has M "by_turns*" d_by_turns] [Has M "by_turns'*" d_by_turns_t] [Cons M "ONE" onE] [Cons M "OTHER" otheR] [Cons M "WHOS" whosD] [Cons M "MOST_TURNS" mostD]
    [Has M "_law_pull" d_law_pull] [Has M "_law_row" d_law_row] [Has M "_law_pair" d_law_pair] [Has M "_law_handed" d_law_handed] [Has M "_law_has" d_law_has] [Has M "_law_flip" d_law_flip] [Has M "_law_count" d_law_count] [Has M "_law_turn" d_law_turn] [Has M "_law_exact" d_law_exact] [Has M "_law_due" d_law_due] [Has M "_law_right" d_law_right]
    (hk : 10 ≤ k) (kp1 : (("by_turns*" : Str), 0, [("many" : Str), ("pair" : Str), ("first" : Str)]) ∈ M.kp) (kp2 : (("by_turns*" : Str), 1, ([] : List Str)) ∈ M.kp) (kp3 : (("by_turns'*" : Str), 1, [("first" : Str), ("many" : Str)]) ∈ M.kp) {n : Nat} {b : Bag} {c : Int} {m : Int} (hm : m = 40 ∨ m = 299) (hs : s[n]? = some (bagL b)) (hd : Dt s) (ok : JOk c b) (hc : c ≤ 10000) : ∃ b', JOk (c + 200) b' ∧ lev M k "_law_right" [.loc n, .d (.int m)] s = some (.d (.bool true), s.set n (bagL b')) := by
  have hlt : n < s.length := (List.getElem?_eq_some_iff.mp hs).1
  have at' : ∀ b : Bag, (s.set n (bagL b))[n]? = some (bagL b) := fun b => List.getElem?_set_self hlt
  obtain ⟨p, b1, hp, hp1, hp2, ok1, d1⟩ := m_lpair (M := M) (k := k - 1) (by omega) hs hd ok (by omega)
  obtain ⟨a, r⟩ := p
  simp only at hp1 hp2
  obtain ⟨t0, t1, t2, m1, m2, b2, e1, e2, ok2, d2⟩ := m_handB (M := M) (k := k - 1) (x := a) (y := r) (by omega) (at' b1) (Dt.set hd (isDt_bag _)) ok1 (by omega) (by omega) (by omega)
  rw [List.set_set] at d2
  obtain ⟨v3, b3, l3, u3, ok3, d3⟩ := m_pull (M := M) (k := k - 1) (m := 2) (by omega) (at' b2) ok2 (by omega) (by omega) (by decide)
  rw [List.set_set] at d3
  obtain ⟨w, hw⟩ : ∃ w : Bool, ∀ s : Sto, o2v .idx s (.d (.list [.str "one", .str "other"])) (.d (.int v3)) = some (.d (.str (whoS w))) := by
    rcases (by omega : v3 = 0 ∨ v3 = 1) with q | q <;> subst q
    · exact ⟨true, fun _ => rfl⟩
    · exact ⟨false, fun _ => rfl⟩
  obtain ⟨j, b4, hj, ok4, d4⟩ : ∃ (j : Nat) (b4 : Bag), j ≤ 299 ∧ JOk (c + 140) b4 ∧ evE (levG M (k - 1)) (.ite (.o2 .lt (.var 1) (.cst (.int 100))) (.call "_law_pull" (.cons (.var 0) (.cons (.cst (.int 41)) .nil))) (.var 1)) [some (.loc n), some (.d (.int m)), some (.d (tw (a, r))), some (.d (sq t0 [mr t1 m1, mr t2 m2])), some (.d (.str (whoS w))), none, none, none] (s.set n (bagL b3)) = some (.d (.int (j : Int)), s.set n (bagL b4)) := by
    rcases hm with q | q
    · obtain ⟨v4, b4, l4, u4, ok4, d4⟩ := m_pull (M := M) (k := k - 1) (m := 41) (by omega) (at' b3) ok3 (by omega) (by omega) (by decide)
      rw [List.set_set] at d4
      refine ⟨v4.toNat, b4, by omega, ok4.mono (by omega), ?_⟩
      rw [Int.toNat_of_nonneg l4]
      exact e_ites (t := true) (e_o2 (e_var rfl) e_cst (by rw [v_lt, decide_eq_true (by omega)])) (fun _ => e_call (es_cons (e_var rfl) (es_cons e_cst es_nil)) d4) (fun h => by cases h)
    · refine ⟨299, b3, Nat.le_refl _, ok3.mono (by omega), ?_⟩
      exact e_ites (t := false) (e_o2 (e_var rfl) e_cst (by rw [v_lt, decide_eq_false (by omega)])) (fun h => by cases h) (fun _ => e_var (by rw [q]; rfl))
  have l1 : m1.length = a.length := by rw [← e1, List.length_map]
  have l2 : m2.length = r.length := by rw [← e2, List.length_map]
  have hp' : PairOk nMax (rowOf m1, rowOf m2) := by rw [e1, e2]; exact hp
  refine ⟨b4, ok4.mono (by omega), d_open (by omega) rfl rfl ?_⟩
  show Wl _ (exB _ b_law_right [some (.loc n), some (.d (.int m)), none, none, none, none, none, none] s)
  have hS3 : (s.set n (bagL b4)).length = s.length := by simp
  have hdS : Dt (s.set n (bagL b4)) := Dt.set hd (isDt_bag _)
  have fin : ∀ T : Sto, OutV s.length (.d (.bool true)) (s.set n (bagL b4)) (.rt (.d (.bool true))) (s.set n (bagL b4) ++ T) := fun T => by
    refine out_cut ?_ ?_
    · rw [List.take_append_of_le_length (by simp)]
      exact Dt.take hdS _
    · rw [List.take_append_of_le_length (by simp), List.take_of_length_le (by simp)]
  generalize hS : s.set n (bagL b4) = S at *
  have q1 : ∀ (S : Sto) (w : Bool) (j : Nat), j ≤ 299 → lev M (k - 1) "_law_due" [.d (tw (a, r)), .d (.str (whoS w)), .d (.int (j : Int))] S = _ := fun S w j hj => m_due (M := M) (k := k - 1) (s := S) (p := (a, r)) (w := w) (j := j) (by omega) (by omega) (by simp only; omega) (by simp only; omega) hp
  have q2 : ∀ (S : Sto) (w : Bool) (j : Nat), j ≤ 299 → lev M (k - 1) "by_turns*" [.d (sq t0 [mr t1 m1, mr t2 m2]), .d (.str (whoS w)), .d (.int (j : Int))] S = _ := fun S w j hj => m_by (M := M) (k := k - 1) (s := S) (t := t0) (t1 := t1) (t2 := t2) (m1 := m1) (m2 := m2) (w := w) (j := j) (by omega) hj (by omega) (by omega) hp'
  obtain ⟨T, qs, hT, q3⟩ := m_by_t (M := M) (k := k - 1) (s := S) (t := t0) (t1 := t1) (t2 := t2) (m1 := m1) (m2 := m2) (w := w) (j := j) (by omega) hj (by omega) (by omega) hp'
  simp only [e1, e2] at hT q2
  have sanB : ∀ (w : Bool) (j : Nat), j ≤ 299 → San 4 (.list ((byP (a, r) w j).map tw)) := fun w j hj => san_byP (by_small hp w hj (by simp only; omega) (by simp only; omega)) (by rw [by_len]; omega)
  have ex : ∀ (S : Sto) (w : Bool) (j : Nat), j ≤ 299 → lev M (k - 1) "_law_exact" [.d (.list ((byP (a, r) w j).map tw)), .d (.list ((byP (a, r) w j).map tw))] S = some (.d (.bool true), S) := fun S w j hj => m_exact (n := 4) (sanB w j hj) (by omega)
  have exT : ∀ S : Sto, lev M (k - 1) "_law_exact" [.d (.list ((byP (a, r) w j).tail.map tw)), .d (.list ((byP (a, r) w j).tail.map tw))] S = some (.d (.bool true), S) := fun S => m_exact (n := 4) (san_byP (fun p hp' => by_small hp w hj (by simp only; omega) (by simp only; omega) p (List.mem_of_mem_tail hp')) (by have := by_len (a, r) w j; rw [List.length_tail]; omega)) (by omega)
  have ex1 : lev M (k - 1) "_law_exact" [.loc (S.length + 2), .d (.list ((byP (a, r) w j).map tw))] (S ++ T) = some (.d (.bool true), S ++ T) := by
    refine m_lend (ds := [.list ((byP (a, r) w j).map tw), .list ((byP (a, r) w j).map tw)]) rfl ?_ rfl (ex _ w j hj)
    unfold allM
    rw [hT.dat]
    rfl
  have hh := hT.h
  rw [by_tail] at hh
  obtain ⟨⟨ha, hb⟩, hrest⟩ := hh
  simp only at ha hb
  have hTl : 2 < T.length := (List.getElem?_eq_some_iff.mp hT.l).1
  have st : ∀ (u : Nat) (o : So) (t' : Sto), (S ++ t').set (S.length + u) o = S ++ t'.set u o := fun u o t' => by
    rw [List.set_append_right _ _ (by omega), show S.length + u - S.length = u by omega]
  unfold b_law_right
  refine w_asg (e_call (es_cons (e_var rfl) es_nil) d1) rfl ?_
  refine w_asg (e_call (es_cons (e_var rfl) (es_cons (e_var rfl) es_nil)) d2) rfl ?_
  refine w_asg (e_o2 (e_lstT (es_cons e_cst (es_cons e_cst es_nil)) rfl) (e_call (es_cons (e_var rfl) (es_cons e_cst es_nil)) d3) (hw _)) rfl ?_
  refine w_asg d4 rfl ?_
  refine w_asg (e_call (es_cons (e_var rfl) (es_cons (e_var rfl) (es_cons (e_var rfl) es_nil))) (q1 S w j hj)) rfl ?_
  refine w_asg (e_callk (is := [0, 1]) (es_cons (e_var rfl) es_nil) (es_cons (e_var rfl) (es_cons (e_var rfl) es_nil)) (by omega) kp3 (by rw [List.length_singleton]; decide +kernel) rfl q3) rfl ?_
  refine w_if (t := !true) (e_not (e_call (es_cons (e_var rfl) (es_cons (e_var rfl) es_nil)) ex1)) (fun h => by cases h) fun _ => ?_
  have ix1 : ∀ (T : Sto), T[2]? = some (.lst (((0, 1) :: qs).map (mixQ S.length))) → o2v .idx (S ++ T) (.loc (S.length + 2)) (.d (.int 0)) = some (mixQ S.length (0, 1)) := fun T h => by
    rw [v_ixP (told_at h)]
    show L2.atI _ ((0 : Nat) : Int) = _
    rw [atI_nat (by simp)]
    rfl
  have ix2 : ∀ (S T : Sto), o2v .idx T (mixQ S.length (0, 1)) (.d (.int 0)) = some (.loc (S.length + 0)) ∧ o2v .idx T (mixQ S.length (0, 1)) (.d (.int 1)) = some (.loc (S.length + 1)) := fun S T => ⟨rfl, rfl⟩
  refine w_ex (e_lm (e_o2 (e_o2 (e_var rfl) e_cst (ix1 T hT.l)) e_cst (ix2 S _).1) (told_at ha) (es_cons (e_tup (es_cons e_cst (es_cons e_cst es_nil)) rfl) es_nil) (told_at ha) (lm_app (by rw [List.length_map, sizeL]; omega))) ?_
  rw [st]
  generalize hT1 : T.set 0 (.lst (a.map (fun p => Vl.d (prI p)) ++ [Vl.d (.tuple [.int 1, .int 1])])) = T1
  have T1l : T1[2]? = some (.lst (((0, 1) :: qs).map (mixQ S.length))) := by rw [← hT1, List.getElem?_set_ne (by decide)]; exact hT.l
  have T1b : T1[1]? = some (lsP r) := by rw [← hT1, List.getElem?_set_ne (by decide)]; exact hb
  refine w_ex (e_lm (e_o2 (e_o2 (e_var rfl) e_cst (ix1 T1 T1l)) e_cst (ix2 S _).2) (told_at T1b) (es_cons (e_tup (es_cons e_cst (es_cons e_cst es_nil)) rfl) es_nil) (told_at T1b) (lm_app (by rw [List.length_map, sizeL]; omega))) ?_
  rw [st]
  generalize hT2 : T1.set 1 (.lst (r.map (fun p => Vl.d (prI p)) ++ [Vl.d (.tuple [.int 1, .int 1])])) = T2
  have T2l : T2[2]? = some (.lst (((0, 1) :: qs).map (mixQ S.length))) := by rw [← hT2, List.getElem?_set_ne (by decide)]; exact T1l
  have T2h : HoldP T2 qs (byP (a, r) w j).tail := HoldP.imp (fun q hq i hi r' hr => by
    have := hT.f q hq
    rw [← hT2, ← hT1, List.getElem?_set_ne (by omega), List.getElem?_set_ne (by omega)]
    exact hr) hrest
  have sl := e_slP (G := levG M (k - 1)) (r := [some (.loc n), some (.d (.int m)), some (.d (tw (a, r))), some (.d (sq t0 [mr t1 m1, mr t2 m2])), some (.d (.str (whoS w))), some (.d (.int (j : Int))), some (.d (.list ((byP (a, r) w j).map tw))), some (.loc (S.length + 2))]) (s := S ++ T2) (a := .var 7) (lo := .so (.cst (.int 1))) (hi := .no) (l' := some 1) (h' := none) (e_var rfl) (ox_so e_cst) ox_no rfl rfl (told_at T2l) rfl
  rw [List.map_cons, cut_tl, List.append_assoc] at sl
  have ex3 : lev M (k - 1) "_law_exact" [.loc (S ++ T2).length, .d (.list ((byP (a, r) w j).tail.map tw))] (S ++ (T2 ++ [.lst (qs.map (mixQ S.length))])) = some (.d (.bool true), S ++ (T2 ++ [.lst (qs.map (mixQ S.length))])) := by
    refine m_lend (ds := [.list ((byP (a, r) w j).tail.map tw), .list ((byP (a, r) w j).tail.map tw)]) rfl ?_ rfl (exT _)
    have e0 : datV (S ++ (T2 ++ [.lst (qs.map (mixQ S.length))])) (.loc (S ++ T2).length) = some (.list ((byP (a, r) w j).tail.map tw)) := by
      show (match (S ++ (T2 ++ [So.lst (qs.map (mixQ S.length))]))[(S ++ T2).length]? with
        | some (.lst vs) => (allM (datN (S ++ (T2 ++ [So.lst (qs.map (mixQ S.length))])) 5) vs).map PyData.list
        | _ => none) = _
      rw [← List.append_assoc, at_new]
      show (allM (datN (S ++ T2 ++ [So.lst (qs.map (mixQ S.length))]) (3 + 2)) _).map PyData.list = _
      rw [List.append_assoc, dat_hold (HoldP.imp (fun q hq i hi r' hr => by
        rw [List.getElem?_append_left (List.getElem?_eq_some_iff.mp hr).1]
        exact hr) T2h)]
      rfl
    unfold allM
    rw [e0]
    rfl
  have slD : evE (levG M (k - 1)) (.sl (.var 6) (.so (.cst (.int 1))) .no) [some (.loc n), some (.d (.int m)), some (.d (tw (a, r))), some (.d (sq t0 [mr t1 m1, mr t2 m2])), some (.d (.str (whoS w))), some (.d (.int (j : Int))), some (.d (.list ((byP (a, r) w j).map tw))), some (.loc (S.length + 2))] (S ++ (T2 ++ [.lst (qs.map (mixQ S.length))])) = some (.d (.list ((byP (a, r) w j).tail.map tw)), S ++ (T2 ++ [.lst (qs.map (mixQ S.length))])) := by
    have := e_slL (G := levG M (k - 1)) (r := [some (.loc n), some (.d (.int m)), some (.d (tw (a, r))), some (.d (sq t0 [mr t1 m1, mr t2 m2])), some (.d (.str (whoS w))), some (.d (.int (j : Int))), some (.d (.list ((byP (a, r) w j).map tw))), some (.loc (S.length + 2))]) (s := S ++ (T2 ++ [.lst (qs.map (mixQ S.length))])) (a := .var 6) (lo := .so (.cst (.int 1))) (hi := .no) (xs := (byP (a, r) w j).map tw) (l' := some 1) (h' := none) (e_var rfl) (ox_so e_cst) ox_no rfl rfl
    have e0 : cutD ((byP (a, r) w j).map tw) (some 1) none = (byP (a, r) w j).tail.map tw := by
      rw [by_tail, List.map_cons, cut_tl]
      rfl
    rw [e0] at this
    exact this
  refine w_if (t := !true) (e_not (e_call (es_cons sl (es_cons slD es_nil)) ex3)) (fun h => by cases h) fun _ => ?_
  generalize hT3 : T2 ++ [So.lst (qs.map (mixQ S.length))] = T3
  have T3l : T3[2]? = some (.lst (((0, 1) :: qs).map (mixQ S.length))) := by
    rw [← hT3, List.getElem?_append_left (by rw [← hT2, ← hT1]; simpa using hTl)]
    exact T2l
  refine w_ex (e_lm (m := .clear) (v := .d .none) (ys := []) (e_var rfl) (told_at T3l) es_nil (told_at T3l) rfl) ?_
  rw [st]
  generalize T3.set 2 (.lst []) = T4
  refine w_if (t := !true) (e_not (e_call (es_cons (e_callk (is := [1, 2, 0]) es_nil (es_cons (e_var rfl) (es_cons (e_var rfl) (es_cons (e_var rfl) es_nil))) (by omega) kp1 (by decide +kernel) rfl (q2 _ w j hj)) (es_cons (e_var rfl) es_nil)) (ex _ w j hj))) (fun h => by cases h) fun _ => ?_
  exact w_ret (e_call (es_cons (e_callk (is := [0, 1]) (es_cons (e_var rfl) es_nil) es_nil (by omega) kp2 (by rw [List.length_singleton]; decide +kernel) rfl (q2 _ false 10 (by omega))) (es_cons (e_call (es_cons (e_var rfl) (es_cons e_cst (es_cons e_cst es_nil))) (q1 _ false 10 (by omega))) es_nil)) (ex _ false 10 (by omega))) (fin T4)
theorem m_law [Has M "is_whole" d_is_whole] [Has M "is_stretch" d_is_stretch] [Has M "is_row" d_is_row] [Has M "plain" d_plain] [Has M "need_row" d_need_row] [Has M "plain'" d_plain_t] [Has M "need_row'" d_need_row_t] [Has M "edges_of" d_edges_of] [Has M "row_by" d_row_by] [Has M "row_by'" d_row_by_t] [Has M "unlike" d_unlike] [Has M "turned_over" d_turned_over] [Has M "turned_over'" d_turned_over_t] [Has M "heads" d_heads] [Has M "turned_by" d_turned_by] [Has M "turned_by'" d_turned_by_t] [Has M "is_pair" d_is_pair] [Has M "plain_pair" d_plain_pair] [Has M "plain_pair'" d_plain_pair_t] [Has M "need_who" d_need_who] [Has M "who_else" d_who_else] [Has M "by_turns*" d_by_turns] [Has M "by_turns'*" d_by_turns_t] [Cons M "ONE" onE] [Cons M "OTHER" otheR] [Cons M "WHOS" whosD] [Cons M "MOST_TURNS" mostD]
    [Has M "_law_pull" d_law_pull] [Has M "_law_row" d_law_row] [Has M "_law_pair" d_law_pair] [Has M "_law_handed" d_law_handed] [Has M "_law_has" d_law_has] [Has M "_law_flip" d_law_flip] [Has M "_law_count" d_law_count] [Has M "_law_turn" d_law_turn] [Has M "_law_exact" d_law_exact] [Has M "_law_due" d_law_due] [Has M "_law_right" d_law_right] [Has M "_law_jar" d_law_jar] [Has M "_law_cells" d_law_cells] [Has M "law" d_law]
    (hk : 11 ≤ k) (kp1 : (("by_turns*" : Str), 0, [("many" : Str), ("pair" : Str), ("first" : Str)]) ∈ M.kp) (kp2 : (("by_turns*" : Str), 1, ([] : List Str)) ∈ M.kp) (kp3 : (("by_turns'*" : Str), 1, [("first" : Str), ("many" : Str)]) ∈ M.kp) {ns : List Int} (hl : ns.length ≤ 63) : lev M k "law" [.d (.list (ns.map .int))] s = some (.d (.bool true), s) := by
  refine d_clean (by omega) rfl rfl rfl ?_
  show Wl _ (exB _ b_law [some (.d (.list (ns.map .int))), none, none, none, none, none] [])
  unfold b_law
  obtain ⟨ys, hyl, hy⟩ := m_cells (M := M) (k := k - 1) (s := []) (ns := ns) (c := 5) (by omega) hl
  refine w_asg (e_call (es_cons (e_var rfl) (es_cons e_cst es_nil)) hy) rfl ?_
  apply w_for (l := List.range ys.length) (φ := fun i : Nat => Vl.d (.int (i : Int))) (g := []) (s1 := []) (fun pre e s1 => ∃ x y z u, Dt s1 ∧ e = [some (.d (.list (ns.map .int))), some (.d (.list (ys.map .int))), x, y, z, u])
  · have := i_rng1 (G := levG M (k - 1)) (r := [some (.d (.list (ns.map .int))), some (.d (.list (ys.map .int))), none, none, none, none]) (s := []) (a := .bi .len (.cons (.var 1) .nil)) (e_bi (es_cons (e_var rfl) es_nil) b_len_l) (by rw [List.length_map]; unfold smallI; omega)
    rw [List.length_map] at this
    exact this
  · exact ⟨none, none, none, none, Dt.nil, rfl⟩
  · rintro pre j post e s1 hz ⟨x, y, z, u, hd, rfl⟩
    obtain ⟨hj, hjl⟩ := range_mid hz
    subst hj
    obtain ⟨b, okb, e1⟩ := m_jar (M := M) (k := k - 1) (s := s1) (c := ys[pre.length]) (j := (pre.length : Int)) (by omega) (by omega) (by omega)
    refine ⟨okGb_nil, [some (.d (.list (ns.map .int))), some (.d (.list (ys.map .int))), some (.d (.int (pre.length : Int))), y, z, u], rfl, ?_⟩
    unfold b_law_2
    refine w_asg (e_call (es_cons (x := .d (.int ys[pre.length])) (e_o2 (e_var rfl) (e_var rfl) ?_) (es_cons (e_var rfl) es_nil)) e1) rfl ?_
    · rw [v_ixL, atI_nat (by rw [List.length_map]; exact hjl), List.getElem?_map, List.getElem?_eq_getElem hjl]
      rfl
    have hsn0 : ∀ b : Bag, (s1 ++ [bagL b])[s1.length]? = some (bagL b) := fun b => by simp
    have set0 : ∀ b b' : Bag, (s1 ++ [bagL b]).set s1.length (bagL b') = s1 ++ [bagL b'] := fun b b' => by
      rw [List.set_append_right _ _ (Nat.le_refl _)]
      simp
    obtain ⟨wd, b1, ok1, e2⟩ : ∃ (wd : Bool) (b1 : Bag), JOk 2 b1 ∧ evE (levG M (k - 1)) (.bop true (.cons (.o2 .eq (.var 2) (.cst (.int 0))) (.cons (.o2 .eq (.call "_law_pull" (.cons (.var 3) (.cons (.cst (.int 6)) .nil))) (.cst (.int 0))) .nil))) [some (.d (.list (ns.map .int))), some (.d (.list (ys.map .int))), some (.d (.int (pre.length : Int))), some (.loc s1.length), z, u] (s1 ++ [bagL b]) = some (.d (.bool wd), s1 ++ [bagL b1]) := by
      by_cases h0 : pre.length = 0
      · obtain ⟨v, b1, l1, u1, ok1, d1⟩ := m_pull (M := M) (k := k - 1) (m := 6) (by omega) (hsn0 b) okb (by omega) (by omega) (by decide)
        rw [set0] at d1
        exact ⟨_, b1, ok1.mono (by omega), e_bop (b_andS (e_o2 (e_var rfl) e_cst (by rw [v_eqI, decide_eq_true (by omega)])) (b_one (e_o2 (e_call (es_cons (e_var rfl) (es_cons e_cst es_nil)) d1) e_cst v_eqI)))⟩
      · exact ⟨false, b, okb.mono (by omega), e_bop (b_andF (e_o2 (e_var rfl) e_cst (by rw [v_eqI, decide_eq_false (by omega)])))⟩
    refine w_asg e2 rfl ?_
    apply w_for (l := List.range 2) (φ := fun i : Nat => Vl.d (.int (i : Int))) (g := []) (s1 := s1 ++ [bagL b1]) (fun pre2 e s2 => ∃ z b, JOk (200 * pre2.length + 2) b ∧ s2 = s1 ++ [bagL b] ∧ e = [some (.d (.list (ns.map .int))), some (.d (.list (ys.map .int))), some (.d (.int (pre.length : Int))), some (.loc s1.length), some (.d (.bool wd)), z])
    · exact i_rng1 e_cst (by unfold smallI; omega)
    · exact ⟨u, b1, ok1.mono (by simp), rfl, rfl⟩
    · rintro pre2 j2 post2 e s2 hz2 ⟨z2, b2, ok2, rfl, rfl⟩
      obtain ⟨hj2, hj2l⟩ := range_mid hz2
      obtain ⟨mm, hm, hix⟩ : ∃ mm : Int, (mm = 40 ∨ mm = 299) ∧ ∀ s : Sto, o2v .idx s (.d (.list [.int 40, .int 299])) (.d (.int (if wd then 1 else 0))) = some (.d (.int mm)) := by
        cases wd
        · exact ⟨40, .inl rfl, fun _ => rfl⟩
        · exact ⟨299, .inr rfl, fun _ => rfl⟩
      obtain ⟨b3, ok3, e3⟩ := m_right (M := M) (k := k - 1) (m := mm) (by omega) kp1 kp2 kp3 hm (hsn0 b2) (Dt.app hd (Dt.one (isDt_bag _))) ok2 (by omega)
      rw [set0] at e3
      refine ⟨okGb_nil, [some (.d (.list (ns.map .int))), some (.d (.list (ys.map .int))), some (.d (.int (pre.length : Int))), some (.loc s1.length), some (.d (.bool wd)), some (.d (.int (j2 : Int)))], rfl, ?_⟩
      unfold b_law_1
      refine w_if (t := !true) (e_not (e_call (es_cons (e_var rfl) (es_cons (e_o2 (e_lstT (es_cons e_cst (es_cons e_cst es_nil)) rfl) (e_bi (es_cons (e_var rfl) es_nil) b_intB) (hix _)) es_nil)) e3)) (fun h => by cases h) fun _ => ?_
      exact s_done ⟨_, b3, ok3.mono (by simp; omega), rfl, rfl⟩
    · rintro e s2 ⟨z2, b2, ok2, rfl, rfl⟩
      exact ⟨okGb_nil, s_done ⟨_, _, _, _, Dt.app hd (Dt.one (isDt_bag _)), rfl⟩⟩
  · rintro e s1 ⟨x, y, z, u, hd, rfl⟩
    exact ⟨okGb_nil, w_ret e_cst ⟨rfl⟩⟩
end
end MP.P

namespace MP.P
open PySem MP
instance h_is_whole : Has md "is_whole" d_is_whole := ⟨t_is_whole⟩
instance h_is_stretch : Has md "is_stretch" d_is_stretch := ⟨t_is_stretch⟩
instance h_is_row : Has md "is_row" d_is_row := ⟨t_is_row⟩
instance h_is_pair : Has md "is_pair" d_is_pair := ⟨t_is_pair⟩
instance h_plain : Has md "plain" d_plain := ⟨t_plain⟩
instance h_plain_t : Has md "plain'" d_plain_t := ⟨t_plain_t⟩
instance h_need_row : Has md "need_row" d_need_row := ⟨t_need_row⟩
instance h_need_row_t : Has md "need_row'" d_need_row_t := ⟨t_need_row_t⟩
instance h_edges_of : Has md "edges_of" d_edges_of := ⟨t_edges_of⟩
instance h_row_by : Has md "row_by" d_row_by := ⟨t_row_by⟩
instance h_row_by_t : Has md "row_by'" d_row_by_t := ⟨t_row_by_t⟩
instance h_unlike : Has md "unlike" d_unlike := ⟨t_unlike⟩
instance h_heads : Has md "heads" d_heads := ⟨t_heads⟩
instance h_turned_over : Has md "turned_over" d_turned_over := ⟨t_turned_over⟩
instance h_turned_over_t : Has md "turned_over'" d_turned_over_t := ⟨t_turned_over_t⟩
instance h_plain_pair : Has md "plain_pair" d_plain_pair := ⟨t_plain_pair⟩
instance h_plain_pair_t : Has md "plain_pair'" d_plain_pair_t := ⟨t_plain_pair_t⟩
instance h_need_who : Has md "need_who" d_need_who := ⟨t_need_who⟩
instance h_who_else : Has md "who_else" d_who_else := ⟨t_who_else⟩
instance h_turned_by : Has md "turned_by" d_turned_by := ⟨t_turned_by⟩
instance h_turned_by_t : Has md "turned_by'" d_turned_by_t := ⟨t_turned_by_t⟩
instance h_by_turns : Has md "by_turns*" d_by_turns := ⟨t_by_turns⟩
instance h_by_turns_t : Has md "by_turns'*" d_by_turns_t := ⟨t_by_turns_t⟩
instance h_law_jar : Has md "_law_jar" d_law_jar := ⟨t_law_jar⟩
instance h_law_pull : Has md "_law_pull" d_law_pull := ⟨t_law_pull⟩
instance h_law_cells : Has md "_law_cells" d_law_cells := ⟨t_law_cells⟩
instance h_law_row : Has md "_law_row" d_law_row := ⟨t_law_row⟩
instance h_law_pair : Has md "_law_pair" d_law_pair := ⟨t_law_pair⟩
instance h_law_count : Has md "_law_count" d_law_count := ⟨t_law_count⟩
instance h_law_has : Has md "_law_has" d_law_has := ⟨t_law_has⟩
instance h_law_flip : Has md "_law_flip" d_law_flip := ⟨t_law_flip⟩
instance h_law_turn : Has md "_law_turn" d_law_turn := ⟨t_law_turn⟩
instance h_law_exact : Has md "_law_exact" d_law_exact := ⟨t_law_exact⟩
instance h_law_handed : Has md "_law_handed" d_law_handed := ⟨t_law_handed⟩
instance h_law_due : Has md "_law_due" d_law_due := ⟨t_law_due⟩
instance h_law_right : Has md "_law_right" d_law_right := ⟨t_law_right⟩
instance h_law : Has md "law" d_law := ⟨t_law⟩
instance : Cons md "ONE" onE := ⟨rfl⟩
instance : Cons md "OTHER" otheR := ⟨rfl⟩
instance : Cons md "WHOS" whosD := ⟨rfl⟩
instance : Cons md "MOST_TURNS" mostD := ⟨rfl⟩
theorem law_ok (ns : List Int) (h : ns.length ≤ 63) (hb : ∀ z ∈ ns, PySem.Builtin.Int.intBits z ≤ 1048576) : ∃ s, lev md 40 "law" [.d (.list (ns.map .int))] [] = some (.d (.bool true), s) :=
  ⟨[], m_law (M := md) (by decide) (by rw [md_kp]; simp) (by rw [md_kp]; simp) (by rw [md_kp]; simp) h⟩

end MP.P

open PySem PySem.W PyProof.Rows in
set_option maxRecDepth 100000 in
set_option maxHeartbeats 0 in
theorem PySem.Challenge.cw_turntell_k20_pairs_by_turns_holds : PySem.Challenge.rw_turntell_k20_pairs_by_turns.Holds := by
  w_on; o_law; k_head; (case hw => w_witness2)
  k_fill
  refine MP.walk_mp (l := PySem.Challenge.rw_turntell_k20_pairs_by_turns) (k := 40) (M := MP.P.md) rfl (by decide) rfl ⟨rfl, by decide, by decide⟩ (fun w h Y => PySem.W.kIn_of Y) MP.P.d_law MP.P.t_law rfl (by decide +kernel) (by decide +kernel) ?F MP.P.law_ok
  case F =>
    intro w mg h KX G
    have e_is_whole : MP.Ent (L2.KOf KX) mg MP.P.con "is_whole" MP.P.d_is_whole := by
      unfold L2.KOf
      refine' MP.ent_of (x := "is_whole") (by decide +kernel) KX G (st := MP.P.st_is_whole) ?a ?l ?c ?k MP.P.sc_is_whole (fun _ _ _ _ _ _ us hl => match us, hl with | [_, _], _ => rfl) rfl rfl MP.P.ok_is_whole
      (case a => k_is)
      (case l => k_is)
      (case c => k_is)
      (case k => k_is)
    have e_is_stretch : MP.Ent (L2.KOf KX) mg MP.P.con "is_stretch" MP.P.d_is_stretch := by
      unfold L2.KOf
      refine' MP.ent_of (x := "is_stretch") (by decide +kernel) KX G (st := MP.P.st_is_stretch) ?a ?l ?c ?k MP.P.sc_is_stretch (fun _ _ _ _ _ _ us hl => match us, hl with | [_], _ => rfl) rfl rfl MP.P.ok_is_stretch
      (case a => k_is)
      (case l => k_is)
      (case c => k_is)
      (case k => k_is)
    have e_is_row : MP.Ent (L2.KOf KX) mg MP.P.con "is_row" MP.P.d_is_row := by
      unfold L2.KOf
      refine' MP.ent_of (x := "is_row") (by decide +kernel) KX G (st := MP.P.st_is_row) ?a ?l ?c ?k MP.P.sc_is_row (fun _ _ _ _ _ _ us hl => match us, hl with | [_], _ => rfl) rfl rfl MP.P.ok_is_row
      (case a => k_is)
      (case l => k_is)
      (case c => k_is)
      (case k => k_is)
    have e_is_pair : MP.Ent (L2.KOf KX) mg MP.P.con "is_pair" MP.P.d_is_pair := by
      unfold L2.KOf
      refine' MP.ent_of (x := "is_pair") (by decide +kernel) KX G (st := MP.P.st_is_pair) ?a ?l ?c ?k MP.P.sc_is_pair (fun _ _ _ _ _ _ us hl => match us, hl with | [_], _ => rfl) rfl rfl MP.P.ok_is_pair
      (case a => k_is)
      (case l => k_is)
      (case c => k_is)
      (case k => k_is)
    have e_plain : MP.Ent (L2.KOf KX) mg MP.P.con "plain" MP.P.d_plain := by
      unfold L2.KOf
      refine' MP.ent_of (x := "plain") (by decide +kernel) KX G (st := MP.P.st_plain) ?a ?l ?c ?k MP.P.sc_plain (fun _ _ _ _ _ _ us hl => match us, hl with | [_], _ => rfl) rfl rfl MP.P.ok_plain
      (case a => k_is)
      (case l => k_is)
      (case c => k_is)
      (case k => k_is)
    have e_plain_t : MP.Ent (L2.KOf KX) mg MP.P.con "plain'" MP.P.d_plain_t := by
      unfold L2.KOf
      refine' MP.ent_of (x := "plain") (by decide +kernel) KX G (st := MP.P.st_plain_t) ?a ?l ?c ?k MP.P.sc_plain_t (fun _ _ _ _ _ _ us hl => match us, hl with | [_], _ => rfl) rfl rfl MP.P.ok_plain_t
      (case a => k_is)
      (case l => k_is)
      (case c => k_is)
      (case k => k_is)
    have e_need_row : MP.Ent (L2.KOf KX) mg MP.P.con "need_row" MP.P.d_need_row := by
      unfold L2.KOf
      refine' MP.ent_of (x := "need_row") (by decide +kernel) KX G (st := MP.P.st_need_row) ?a ?l ?c ?k MP.P.sc_need_row (fun _ _ _ _ _ _ us hl => match us, hl with | [_], _ => rfl) rfl rfl MP.P.ok_need_row
      (case a => k_is)
      (case l => k_is)
      (case c => k_is)
      (case k => k_is)
    have e_need_row_t : MP.Ent (L2.KOf KX) mg MP.P.con "need_row'" MP.P.d_need_row_t := by
      unfold L2.KOf
      refine' MP.ent_of (x := "need_row") (by decide +kernel) KX G (st := MP.P.st_need_row_t) ?a ?l ?c ?k MP.P.sc_need_row_t (fun _ _ _ _ _ _ us hl => match us, hl with | [_], _ => rfl) rfl rfl MP.P.ok_need_row_t
      (case a => k_is)
      (case l => k_is)
      (case c => k_is)
      (case k => k_is)
    have e_edges_of : MP.Ent (L2.KOf KX) mg MP.P.con "edges_of" MP.P.d_edges_of := by
      unfold L2.KOf
      refine' MP.ent_of (x := "edges_of") (by decide +kernel) KX G (st := MP.P.st_edges_of) ?a ?l ?c ?k MP.P.sc_edges_of (fun _ _ _ _ _ _ us hl => match us, hl with | [_], _ => rfl) rfl rfl MP.P.ok_edges_of
      (case a => k_is)
      (case l => k_is)
      (case c => k_is)
      (case k => k_is)
    have e_row_by : MP.Ent (L2.KOf KX) mg MP.P.con "row_by" MP.P.d_row_by := by
      unfold L2.KOf
      refine' MP.ent_of (x := "row_by") (by decide +kernel) KX G (st := MP.P.st_row_by) ?a ?l ?c ?k MP.P.sc_row_by (fun _ _ _ _ _ _ us hl => match us, hl with | [_], _ => rfl) rfl rfl MP.P.ok_row_by
      (case a => k_is)
      (case l => k_is)
      (case c => k_is)
      (case k => k_is)
    have e_row_by_t : MP.Ent (L2.KOf KX) mg MP.P.con "row_by'" MP.P.d_row_by_t := by
      unfold L2.KOf
      refine' MP.ent_of (x := "row_by") (by decide +kernel) KX G (st := MP.P.st_row_by_t) ?a ?l ?c ?k MP.P.sc_row_by_t (fun _ _ _ _ _ _ us hl => match us, hl with | [_], _ => rfl) rfl rfl MP.P.ok_row_by_t
      (case a => k_is)
      (case l => k_is)
      (case c => k_is)
      (case k => k_is)
    have e_unlike : MP.Ent (L2.KOf KX) mg MP.P.con "unlike" MP.P.d_unlike := by
      unfold L2.KOf
      refine' MP.ent_of (x := "unlike") (by decide +kernel) KX G (st := MP.P.st_unlike) ?a ?l ?c ?k MP.P.sc_unlike (fun _ _ _ _ _ _ us hl => match us, hl with | [_, _], _ => rfl) rfl rfl MP.P.ok_unlike
      (case a => k_is)
      (case l => k_is)
      (case c => k_is)
      (case k => k_is)
    have e_heads : MP.Ent (L2.KOf KX) mg MP.P.con "heads" MP.P.d_heads := by
      unfold L2.KOf
      refine' MP.ent_of (x := "heads") (by decide +kernel) KX G (st := MP.P.st_heads) ?a ?l ?c ?k MP.P.sc_heads (fun _ _ _ _ _ _ us hl => match us, hl with | [_], _ => rfl) rfl rfl MP.P.ok_heads
      (case a => k_is)
      (case l => k_is)
      (case c => k_is)
      (case k => k_is)
    have e_turned_over : MP.Ent (L2.KOf KX) mg MP.P.con "turned_over" MP.P.d_turned_over := by
      unfold L2.KOf
      refine' MP.ent_of (x := "turned_over") (by decide +kernel) KX G (st := MP.P.st_turned_over) ?a ?l ?c ?k MP.P.sc_turned_over (fun _ _ _ _ _ _ us hl => match us, hl with | [_, _], _ => rfl) rfl rfl MP.P.ok_turned_over
      (case a => k_is)
      (case l => k_is)
      (case c => k_is)
      (case k => k_is)
    have e_turned_over_t : MP.Ent (L2.KOf KX) mg MP.P.con "turned_over'" MP.P.d_turned_over_t := by
      unfold L2.KOf
      refine' MP.ent_of (x := "turned_over") (by decide +kernel) KX G (st := MP.P.st_turned_over_t) ?a ?l ?c ?k MP.P.sc_turned_over_t (fun _ _ _ _ _ _ us hl => match us, hl with | [_, _], _ => rfl) rfl rfl MP.P.ok_turned_over_t
      (case a => k_is)
      (case l => k_is)
      (case c => k_is)
      (case k => k_is)
    have e_plain_pair : MP.Ent (L2.KOf KX) mg MP.P.con "plain_pair" MP.P.d_plain_pair := by
      unfold L2.KOf
      refine' MP.ent_of (x := "plain_pair") (by decide +kernel) KX G (st := MP.P.st_plain_pair) ?a ?l ?c ?k MP.P.sc_plain_pair (fun _ _ _ _ _ _ us hl => match us, hl with | [_], _ => rfl) rfl rfl MP.P.ok_plain_pair
      (case a => k_is)
      (case l => k_is)
      (case c => k_is)
      (case k => k_is)
    have e_plain_pair_t : MP.Ent (L2.KOf KX) mg MP.P.con "plain_pair'" MP.P.d_plain_pair_t := by
      unfold L2.KOf
      refine' MP.ent_of (x := "plain_pair") (by decide +kernel) KX G (st := MP.P.st_plain_pair_t) ?a ?l ?c ?k MP.P.sc_plain_pair_t (fun _ _ _ _ _ _ us hl => match us, hl with | [_], _ => rfl) rfl rfl MP.P.ok_plain_pair_t
      (case a => k_is)
      (case l => k_is)
      (case c => k_is)
      (case k => k_is)
    have e_need_who : MP.Ent (L2.KOf KX) mg MP.P.con "need_who" MP.P.d_need_who := by
      unfold L2.KOf
      refine' MP.ent_of (x := "need_who") (by decide +kernel) KX G (st := MP.P.st_need_who) ?a ?l ?c ?k MP.P.sc_need_who (fun _ _ _ _ _ _ us hl => match us, hl with | [_], _ => rfl) rfl rfl MP.P.ok_need_who
      (case a => k_is)
      (case l => k_is)
      (case c => k_is)
      (case k => k_is)
    have e_who_else : MP.Ent (L2.KOf KX) mg MP.P.con "who_else" MP.P.d_who_else := by
      unfold L2.KOf
      refine' MP.ent_of (x := "who_else") (by decide +kernel) KX G (st := MP.P.st_who_else) ?a ?l ?c ?k MP.P.sc_who_else (fun _ _ _ _ _ _ us hl => match us, hl with | [_], _ => rfl) rfl rfl MP.P.ok_who_else
      (case a => k_is)
      (case l => k_is)
      (case c => k_is)
      (case k => k_is)
    have e_turned_by : MP.Ent (L2.KOf KX) mg MP.P.con "turned_by" MP.P.d_turned_by := by
      unfold L2.KOf
      refine' MP.ent_of (x := "turned_by") (by decide +kernel) KX G (st := MP.P.st_turned_by) ?a ?l ?c ?k MP.P.sc_turned_by (fun _ _ _ _ _ _ us hl => match us, hl with | [_, _], _ => rfl) rfl rfl MP.P.ok_turned_by
      (case a => k_is)
      (case l => k_is)
      (case c => k_is)
      (case k => k_is)
    have e_turned_by_t : MP.Ent (L2.KOf KX) mg MP.P.con "turned_by'" MP.P.d_turned_by_t := by
      unfold L2.KOf
      refine' MP.ent_of (x := "turned_by") (by decide +kernel) KX G (st := MP.P.st_turned_by_t) ?a ?l ?c ?k MP.P.sc_turned_by_t (fun _ _ _ _ _ _ us hl => match us, hl with | [_, _], _ => rfl) rfl rfl MP.P.ok_turned_by_t
      (case a => k_is)
      (case l => k_is)
      (case c => k_is)
      (case k => k_is)
    have e_by_turns : MP.Ent (L2.KOf KX) mg MP.P.con "by_turns*" MP.P.d_by_turns := by
      unfold L2.KOf
      refine' MP.ent_ko (x := "by_turns") (by decide +kernel) (by decide +kernel) KX G (st := MP.P.st_by_turns) ?a ?l ?c ?k MP.P.sc_by_turns rfl rfl MP.P.ok_by_turns
      (case a => k_is)
      (case l => k_is)
      (case c => k_is)
      (case k => k_is)
    have e_by_turns_t : MP.Ent (L2.KOf KX) mg MP.P.con "by_turns'*" MP.P.d_by_turns_t := by
      unfold L2.KOf
      refine' MP.ent_ko (x := "by_turns") (by decide +kernel) (by decide +kernel) KX G (st := MP.P.st_by_turns_t) ?a ?l ?c ?k MP.P.sc_by_turns_t rfl rfl MP.P.ok_by_turns_t
      (case a => k_is)
      (case l => k_is)
      (case c => k_is)
      (case k => k_is)
    have e_law_jar : MP.Ent (L2.KOf KX) mg MP.P.con "_law_jar" MP.P.d_law_jar := by
      unfold L2.KOf
      refine' MP.ent_of (x := "_law_jar") (by decide +kernel) KX G (st := MP.P.st_law_jar) ?a ?l ?c ?k MP.P.sc_law_jar (fun _ _ _ _ _ _ us hl => match us, hl with | [_, _], _ => rfl) rfl rfl MP.P.ok_law_jar
      (case a => k_is)
      (case l => k_is)
      (case c => k_is)
      (case k => k_is)
    have e_law_pull : MP.Ent (L2.KOf KX) mg MP.P.con "_law_pull" MP.P.d_law_pull := by
      unfold L2.KOf
      refine' MP.ent_of (x := "_law_pull") (by decide +kernel) KX G (st := MP.P.st_law_pull) ?a ?l ?c ?k MP.P.sc_law_pull (fun _ _ _ _ _ _ us hl => match us, hl with | [_, _], _ => rfl) rfl rfl MP.P.ok_law_pull
      (case a => k_is)
      (case l => k_is)
      (case c => k_is)
      (case k => k_is)
    have e_law_cells : MP.Ent (L2.KOf KX) mg MP.P.con "_law_cells" MP.P.d_law_cells := by
      unfold L2.KOf
      refine' MP.ent_of (x := "_law_cells") (by decide +kernel) KX G (st := MP.P.st_law_cells) ?a ?l ?c ?k MP.P.sc_law_cells (fun _ _ _ _ _ _ us hl => match us, hl with | [_, _], _ => rfl) rfl rfl MP.P.ok_law_cells
      (case a => k_is)
      (case l => k_is)
      (case c => k_is)
      (case k => k_is)
    have e_law_row : MP.Ent (L2.KOf KX) mg MP.P.con "_law_row" MP.P.d_law_row := by
      unfold L2.KOf
      refine' MP.ent_of (x := "_law_row") (by decide +kernel) KX G (st := MP.P.st_law_row) ?a ?l ?c ?k MP.P.sc_law_row (fun _ _ _ _ _ _ us hl => match us, hl with | [_, _, _], _ => rfl) rfl rfl MP.P.ok_law_row
      (case a => k_is)
      (case l => k_is)
      (case c => k_is)
      (case k => k_is)
    have e_law_pair : MP.Ent (L2.KOf KX) mg MP.P.con "_law_pair" MP.P.d_law_pair := by
      unfold L2.KOf
      refine' MP.ent_of (x := "_law_pair") (by decide +kernel) KX G (st := MP.P.st_law_pair) ?a ?l ?c ?k MP.P.sc_law_pair (fun _ _ _ _ _ _ us hl => match us, hl with | [_], _ => rfl) rfl rfl MP.P.ok_law_pair
      (case a => k_is)
      (case l => k_is)
      (case c => k_is)
      (case k => k_is)
    have e_law_count : MP.Ent (L2.KOf KX) mg MP.P.con "_law_count" MP.P.d_law_count := by
      unfold L2.KOf
      refine' MP.ent_of (x := "_law_count") (by decide +kernel) KX G (st := MP.P.st_law_count) ?a ?l ?c ?k MP.P.sc_law_count (fun _ _ _ _ _ _ us hl => match us, hl with | [_], _ => rfl) rfl rfl MP.P.ok_law_count
      (case a => k_is)
      (case l => k_is)
      (case c => k_is)
      (case k => k_is)
    have e_law_has : MP.Ent (L2.KOf KX) mg MP.P.con "_law_has" MP.P.d_law_has := by
      unfold L2.KOf
      refine' MP.ent_of (x := "_law_has") (by decide +kernel) KX G (st := MP.P.st_law_has) ?a ?l ?c ?k MP.P.sc_law_has (fun _ _ _ _ _ _ us hl => match us, hl with | [_, _], _ => rfl) rfl rfl MP.P.ok_law_has
      (case a => k_is)
      (case l => k_is)
      (case c => k_is)
      (case k => k_is)
    have e_law_flip : MP.Ent (L2.KOf KX) mg MP.P.con "_law_flip" MP.P.d_law_flip := by
      unfold L2.KOf
      refine' MP.ent_of (x := "_law_flip") (by decide +kernel) KX G (st := MP.P.st_law_flip) ?a ?l ?c ?k MP.P.sc_law_flip (fun _ _ _ _ _ _ us hl => match us, hl with | [_, _], _ => rfl) rfl rfl MP.P.ok_law_flip
      (case a => k_is)
      (case l => k_is)
      (case c => k_is)
      (case k => k_is)
    have e_law_turn : MP.Ent (L2.KOf KX) mg MP.P.con "_law_turn" MP.P.d_law_turn := by
      unfold L2.KOf
      refine' MP.ent_of (x := "_law_turn") (by decide +kernel) KX G (st := MP.P.st_law_turn) ?a ?l ?c ?k MP.P.sc_law_turn (fun _ _ _ _ _ _ us hl => match us, hl with | [_, _], _ => rfl) rfl rfl MP.P.ok_law_turn
      (case a => k_is)
      (case l => k_is)
      (case c => k_is)
      (case k => k_is)
    have e_law_exact : MP.Ent (L2.KOf KX) mg MP.P.con "_law_exact" MP.P.d_law_exact := by
      unfold L2.KOf
      refine' MP.ent_of (x := "_law_exact") (by decide +kernel) KX G (st := MP.P.st_law_exact) ?a ?l ?c ?k MP.P.sc_law_exact (fun _ _ _ _ _ _ us hl => match us, hl with | [_, _], _ => rfl) rfl rfl MP.P.ok_law_exact
      (case a => k_is)
      (case l => k_is)
      (case c => k_is)
      (case k => k_is)
    have e_law_handed : MP.Ent (L2.KOf KX) mg MP.P.con "_law_handed" MP.P.d_law_handed := by
      unfold L2.KOf
      refine' MP.ent_of (x := "_law_handed") (by decide +kernel) KX G (st := MP.P.st_law_handed) ?a ?l ?c ?k MP.P.sc_law_handed (fun _ _ _ _ _ _ us hl => match us, hl with | [_, _], _ => rfl) rfl rfl MP.P.ok_law_handed
      (case a => k_is)
      (case l => k_is)
      (case c => k_is)
      (case k => k_is)
    have e_law_due : MP.Ent (L2.KOf KX) mg MP.P.con "_law_due" MP.P.d_law_due := by
      unfold L2.KOf
      refine' MP.ent_of (x := "_law_due") (by decide +kernel) KX G (st := MP.P.st_law_due) ?a ?l ?c ?k MP.P.sc_law_due (fun _ _ _ _ _ _ us hl => match us, hl with | [_, _, _], _ => rfl) rfl rfl MP.P.ok_law_due
      (case a => k_is)
      (case l => k_is)
      (case c => k_is)
      (case k => k_is)
    have e_law_right : MP.Ent (L2.KOf KX) mg MP.P.con "_law_right" MP.P.d_law_right := by
      unfold L2.KOf
      refine' MP.ent_of (x := "_law_right") (by decide +kernel) KX G (st := MP.P.st_law_right) ?a ?l ?c ?k MP.P.sc_law_right (fun _ _ _ _ _ _ us hl => match us, hl with | [_, _], _ => rfl) rfl rfl MP.P.ok_law_right
      (case a => k_is)
      (case l => k_is)
      (case c => k_is)
      (case k => k_is)
    have e_law : MP.Ent (L2.KOf KX) mg MP.P.con "law" MP.P.d_law := by
      unfold L2.KOf
      refine' MP.ent_of (x := "law") (by decide +kernel) KX G (st := MP.P.st_law) ?a ?l ?c ?k MP.P.sc_law (fun _ _ _ _ _ _ us hl => match us, hl with | [_], _ => rfl) rfl rfl MP.P.ok_law
      (case a => k_is)
      (case l => k_is)
      (case c => k_is)
      (case k => k_is)
    have k_by_turns_0_many_pair_first : MP.KEnt (L2.KOf KX) mg MP.P.md ("by_turns*", 0, [("many" : Str), ("pair" : Str), ("first" : Str)]) := by
      unfold L2.KOf
      refine' MP.kent_df [] (x := "by_turns") (by decide +kernel) KX G (D := MP.P.d_by_turns) (js := [1, 2, 0]) (st := MP.P.st_by_turns) ?a ?l ?c ?k MP.P.sc_by_turns MP.P.t_by_turns (by decide +kernel) (List.forall_mem_cons.mpr ⟨MP.dfV_str ?d_first, List.forall_mem_cons.mpr ⟨MP.dfV_int ?d_many, fun _ h => absurd h List.not_mem_nil⟩⟩) (fun _ _ _ _ _ us ws dv zs hu hw hd hz => match us, ws, dv, hu, hw, hd, hz with | [], [w0, w1, w2], [v0, v1], _, _, _, hz => by cases hz; exact rfl) rfl rfl MP.P.ok_by_turns
      (case a => k_is)
      (case l => k_is)
      (case c => k_is)
      (case k => k_is)
      (case d_first => k_is)
      (case d_many => k_is)
    have k_by_turns_1_ : MP.KEnt (L2.KOf KX) mg MP.P.md ("by_turns*", 1, []) := by
      unfold L2.KOf
      refine' MP.kent_df [0, 1] (x := "by_turns") (by decide +kernel) KX G (D := MP.P.d_by_turns) (js := [0, 1]) (st := MP.P.st_by_turns) ?a ?l ?c ?k MP.P.sc_by_turns MP.P.t_by_turns (by decide +kernel) (List.forall_mem_cons.mpr ⟨MP.dfV_str ?d_first, List.forall_mem_cons.mpr ⟨MP.dfV_int ?d_many, fun _ h => absurd h List.not_mem_nil⟩⟩) (fun _ _ _ _ _ us ws dv zs hu hw hd hz => match us, ws, dv, hu, hw, hd, hz with | [u0], [], [v0, v1], _, _, _, hz => by cases hz; exact ⟨_, _, _, _, _, _, rfl, rfl, ⟨_, _, _, _, _, _, rfl, rfl, rfl⟩⟩) rfl rfl MP.P.ok_by_turns
      (case a => k_is)
      (case l => k_is)
      (case c => k_is)
      (case k => k_is)
      (case d_first => k_is)
      (case d_many => k_is)
    have k_by_turns_t_1_first_many : MP.KEnt (L2.KOf KX) mg MP.P.md ("by_turns'*", 1, [("first" : Str), ("many" : Str)]) := by
      unfold L2.KOf
      refine' MP.kent_df [] (x := "by_turns") (by decide +kernel) KX G (D := MP.P.d_by_turns_t) (js := [0, 1]) (st := MP.P.st_by_turns_t) ?a ?l ?c ?k MP.P.sc_by_turns_t MP.P.t_by_turns_t (by decide +kernel) (List.forall_mem_cons.mpr ⟨MP.dfV_str ?d_first, List.forall_mem_cons.mpr ⟨MP.dfV_int ?d_many, fun _ h => absurd h List.not_mem_nil⟩⟩) (fun _ _ _ _ _ us ws dv zs hu hw hd hz => match us, ws, dv, hu, hw, hd, hz with | [u0], [w0, w1], [v0, v1], _, _, _, hz => by cases hz; exact rfl) rfl rfl MP.P.ok_by_turns_t
      (case a => k_is)
      (case l => k_is)
      (case c => k_is)
      (case k => k_is)
      (case d_first => k_is)
      (case d_many => k_is)
    refine ⟨MP.tab_fs (tab := MP.P.tab) ?fs, ?con, ?blt, ?kp⟩
    case fs =>
      unfold MP.P.tab
      simp only [List.forall_mem_cons]
      exact ⟨e_is_whole, e_is_stretch, e_is_row, e_is_pair, e_plain, e_plain_t, e_need_row, e_need_row_t, e_edges_of, e_row_by, e_row_by_t, e_unlike, e_heads, e_turned_over, e_turned_over_t, e_plain_pair, e_plain_pair_t, e_need_who, e_who_else, e_turned_by, e_turned_by_t, e_by_turns, e_by_turns_t, e_law_jar, e_law_pull, e_law_cells, e_law_row, e_law_pair, e_law_count, e_law_has, e_law_flip, e_law_turn, e_law_exact, e_law_handed, e_law_due, e_law_right, e_law, fun p hp => absurd hp (List.not_mem_nil)⟩
    have c_ONE : ∃ u v, mg "ONE" = some u ∧ L2.RelV v u ∧ L2.Dp (L2.KOf KX) (fun _ => none) v (.str "one") := by
      unfold L2.KOf
      refine' MP.con_str (z := "one") KX G ?a
      (case a => k_is)
    have c_OTHER : ∃ u v, mg "OTHER" = some u ∧ L2.RelV v u ∧ L2.Dp (L2.KOf KX) (fun _ => none) v (.str "other") := by
      unfold L2.KOf
      refine' MP.con_str (z := "other") KX G ?a
      (case a => k_is)
    have c_WHOS : ∃ u v, mg "WHOS" = some u ∧ L2.RelV v u ∧ L2.Dp (L2.KOf KX) (fun _ => none) v (.tuple [(.str "one"), (.str "other")]) := by
      unfold L2.KOf
      refine' MP.con_pair KX G ?a ?l ?pc ?pd
      (case a => k_is)
      (case l => k_is)
      (case pc => rfl)
      (case pd => rfl)
    have c_MOST_TURNS : ∃ u v, mg "MOST_TURNS" = some u ∧ L2.RelV v u ∧ L2.Dp (L2.KOf KX) (fun _ => none) v (.int 299) := by
      unfold L2.KOf
      refine' MP.con_int (z := 299) KX G ?a
      (case a => k_is)
    case con =>
      refine MP.con_of (l := [(("ONE" : Str), ((.str "one") : PyData)), (("OTHER" : Str), ((.str "other") : PyData)), (("WHOS" : Str), ((.tuple [(.str "one"), (.str "other")]) : PyData)), (("MOST_TURNS" : Str), ((.int 299) : PyData))]) ?_
      simp only [List.forall_mem_cons]
      exact ⟨c_ONE, c_OTHER, c_WHOS, c_MOST_TURNS, fun p hp => absurd hp (List.not_mem_nil)⟩
    case blt =>
      have b1 : ∀ x ∈ MP.bltNames, PySem.W.nsIn (L2.KOf KX) mainGlobals x = some none := by
        unfold L2.KOf
        unfold MP.bltNames
        simp only [List.forall_mem_cons]
        refine ⟨?_, ?_, ?_, ?_, ?_, ?_, ?_, ?_, ?_, ?_, ?_, ?_, ?_, ?_, ?_, ?_, ?_, ?_, ?_, fun p hp => absurd hp (List.not_mem_nil)⟩
        all_goals k_is
      exact fun x hx => PySem.W.mg_none_of KX G (b1 x hx)
    case kp =>
      rw [MP.P.md_kp]
      simp only [List.forall_mem_cons]
      exact ⟨k_by_turns_0_many_pair_first, k_by_turns_1_, k_by_turns_t_1_first_many, fun p hp => absurd hp (List.not_mem_nil)⟩
