import PyProof.Rows.All
import HandS.Text
import HandS.StrMore
import KE.KStateDown
import HandS.Ends
import HandS.More
import HandS.Words
import HandS.WordsExc
import HandS.Head3
import HandS.HeadHook4
import HandS.HeadNt
import Wide.All
import OpenK.AllK
import Wide.FinOn
import HandS.ForMost
import HandS.Wide
import HandS.Deep
import HandS.TupAny
import HandS.Exc
import HandS.Defaults
import HandS.IsInst
import HandS.Flow
import HandS.Style
import HandS.ExcInit
import KE.KExcIs
import HandS.ExcField
import HandS.SlotsOwn
import HandS.Property
import HandS.Zip
import HandS.Gcd
import HandS.FStr
import HandS.Head0
import HandS.Head1
import HandS.Head2
import HandS.HeadEnd
import PySem.Challenge.RW_lostland_k09_kinds_of_tables
set_option autoImplicit false
set_option linter.all false
/-! Ev: pure values, a small syntax without positions, and what must hold so that a piece of it comes through (by predicate transformers). Nothing of the machine. -/
namespace Ev
open PySem
/-- a value; lists and dicts by what they hold -/
inductive D where
  | non | bl (b : Bool) | int (i : Int) | str (s : Str)
  | tup (xs : List D) | lst (xs : List D) | dic (kvs : List (D × D))
  | obj (c : Nat) (fs : List (Nat × D))
  /-- an error: its class, all classes that it is of, its attributes -/
  | exc (c : Nat) (an : List Nat) (fs : List (Nat × D))
  /-- a list that stands outside (the script, a list of the module's top) -/
  | frz (xs : List D)
  /-- a dict of the module's top, texts to ints -/
  | dicw (kvs : List (D × D))
  deriving Inhabited
/-- imm: never changed again; own: a list that one name alone holds; par: such a list of the caller's, by a parameter; parl: the same, handed on (not changed any more) -/
inductive Fl where
  | imm | own | par | parl
  deriving DecidableEq
abbrev Val := Fl × D
abbrev Rho := List (Option Val)
def Rho.at : Rho → Nat → Option Val
  | [], _ => none
  | v :: _, 0 => v
  | _ :: r, n + 1 => Rho.at r n
def Rho.put : Rho → Nat → Option Val → Rho
  | [], _, _ => []
  | _ :: r, 0, a => a :: r
  | v :: r, n + 1, a => v :: Rho.put r n a
def leakF : Fl → Fl
  | .own => .imm
  | .par => .parl
  | f => f
def Rho.leak (ρ : Rho) (i : Nat) : Rho := match ρ.at i with
  | some (.own, d) => ρ.put i (some (.imm, d))
  | some (.par, d) => ρ.put i (some (.parl, d))
  | _ => ρ
def Rho.wipe (ρ : Rho) : List Nat → Rho
  | [] => ρ
  | i :: is => (Rho.wipe ρ is).put i none
/-- no list of the caller's stands there -/
def wipeB (ρ : Rho) : List Nat → Bool
  | [] => true
  | i :: is => (match ρ.at i with
    | some (.par, _) => false
    | some (.parl, _) => false
    | _ => true) && wipeB ρ is
def ownF : Fl → Bool
  | .own => true
  | .par => true
  | _ => false
/-- all own lists are handed on -/
def Rho.calm (ρ : Rho) : Rho := ρ.map (Option.map fun a => (.imm, a.2))
def flatD : D → Bool
  | .non => true
  | .bl _ => true
  | .int _ => true
  | .str _ => true
  | _ => false
/-! ### operations -/
inductive Ty where
  | int | bool | str | list | tuple | dict | non | cls (c : Nat)
  /-- an error class of Python's own -/
  | bex (i : Nat)
  deriving DecidableEq
inductive Op where
  | add | sub | mul | fdiv | mod | pow | neg
  | eq | ne | lt | le | gt | ge | isN | notN | in_ | notin
  | idx | slc (lo hi : Bool)
  | len | abs | toInt | toList | toTuple | toStr
  | isi (ts : List Ty)
  | all | any | sum | max2 | min2
  | sorted
  /-- an attribute, by its number -/
  | fld (i : Nat)
  | gcd | rep | inS | toIntS | slcS (lo hi : Bool) | stripC | startsw | part
  deriving DecidableEq
/-- the longest list, text -/
abbrev line : Nat := 16777216
def MulOk (i j : Int) : Prop := i.natAbs.log2 + j.natAbs.log2 < 1000000 ∨ i.natAbs < 2 ^ 64 ∨ j.natAbs < 2 ^ 64
def ixN (n : Nat) (i : Int) : Option Nat := if 0 ≤ i then (if i < n then some i.toNat else none) else if -(n : Int) ≤ i then some (i + n).toNat else none
def atI {α : Type} (xs : List α) (i : Int) : Option α := (ixN xs.length i).bind fun j => xs[j]?
def sIx (n d : Nat) : Option Int → Nat
  | none => d
  | some v => if v < 0 then (v + (n : Int)).toNat else min v.toNat n
def cut {α : Type} (xs : List α) (lo hi : Option Int) : List α := (xs.drop (sIx xs.length 0 lo)).take (sIx xs.length xs.length hi - sIx xs.length 0 lo)
def hasTy : Ty → D → Bool
  | .int, .int _ => true
  | .int, .bl _ => true
  | .bool, .bl _ => true
  | .str, .str _ => true
  | .list, .lst _ => true
  | .list, .frz _ => true
  | .tuple, .tup _ => true
  | .dict, .dic _ => true
  | .dict, .dicw _ => true
  | .non, .non => true
  | .cls c, .obj d _ => c == d
  | .cls c, .exc _ an _ => an.contains c
  | .bex i, .exc _ an _ => an.contains (1000 + i)
  | _, _ => false
/-- == of None, bools, ints, texts, tuples, lists -/
def eqD : D → D → Bool
  | .non, .non => true
  | .bl a, .bl b => a == b
  | .bl a, .int j => (if a then 1 else 0) == j
  | .int i, .bl b => i == (if b then 1 else 0)
  | .int i, .int j => i == j
  | .str x, .str y => x == y
  | .lst xs, .lst ys => eqDs xs ys
  | .tup xs, .tup ys => eqDs xs ys
  | _, _ => false
where
  eqDs : List D → List D → Bool
  | [], [] => true
  | x :: xs, y :: ys => eqD x y && eqDs xs ys
  | _, _ => false
/-- data that == compares so: no dict, no object; texts of code points; not deeper than n -/
def lay : Nat → D → Bool
  | _, .non => true
  | _, .bl _ => true
  | _, .int _ => true
  | _, .str s => s.cps.all (· < 0x110000)
  | n + 1, .tup xs => xs.all (lay n)
  | n + 1, .lst xs => xs.all (lay n)
  | _, _ => false
def isInt : D → Bool
  | .int _ => true
  | _ => false
def bools? : List D → Option (List Bool)
  | [] => some []
  | .bl b :: r => (bools? r).map (b :: ·)
  | _ => none
def ints? : List D → Option (List Int)
  | [] => some []
  | .int b :: r => (ints? r).map (b :: ·)
  | _ => none
def cutT (z : Str) (lo hi : Option Int) : Str := ⟨(cut z.cps.toList lo hi).toArray⟩
def repT (z : Str) (n : Nat) : Str := ⟨(List.replicate n z.cps).foldl (· ++ ·) #[]⟩
def textI (i : Int) : Str := Str.ofString (toString i)
/-- a part of a formatted text -/
def fmt1 : D → Option Str
  | .str y => if y.length ≤ line then some y else none
  | .int i => if i.natAbs.log2 < 1920 then some (textI i) else none
  | _ => none
/-- what a dict holds under a key -/
def dget (kvs : List (D × D)) (k : D) : Option D := (kvs.find? fun p => eqD p.1 k).map (·.2)
/-- what is asked of the operands, and of the value P -/
def opP : Op → List D → (Val → Prop) → Prop
  | .add, [.int i, .int j], P => P (.imm, .int (i + j))
  | .add, [.str a, .str b], P => a.length + b.length ≤ line ∧ P (.imm, .str (a ++ b))
  | .add, [.tup a, .tup b], P => a.length + b.length ≤ line ∧ P (.imm, .tup (a ++ b))
  | .add, [.lst a, .lst b], P => a.length + b.length ≤ line ∧ P (.own, .lst (a ++ b))
  | .sub, [.int i, .int j], P => P (.imm, .int (i - j))
  | .mul, [.int i, .int j], P => MulOk i j ∧ P (.imm, .int (i * j))
  | .fdiv, [.int i, .int j], P => j ≠ 0 ∧ j.natAbs.log2 < 9000 ∧ P (.imm, .int (i.fdiv j))
  | .mod, [.int i, .int j], P => j ≠ 0 ∧ P (.imm, .int (i.fmod j))
  | .pow, [.int i, .int j], P => 0 ≤ j ∧ j ≤ 1000000 ∧ i.natAbs < 2 ^ 64 ∧ P (.imm, .int (i ^ j.toNat))
  | .neg, [.int i], P => P (.imm, .int (-i))
  | .eq, [a, b], P => lay 60 a = true ∧ lay 60 b = true ∧ P (.imm, .bl (eqD a b))
  | .ne, [a, b], P => lay 60 a = true ∧ lay 60 b = true ∧ P (.imm, .bl (!eqD a b))
  | .lt, [.int i, .int j], P => P (.imm, .bl (decide (i < j)))
  | .le, [.int i, .int j], P => P (.imm, .bl (decide (i ≤ j)))
  | .gt, [.int i, .int j], P => P (.imm, .bl (decide (j < i)))
  | .ge, [.int i, .int j], P => P (.imm, .bl (decide (j ≤ i)))
  | .isN, [.non], P => P (.imm, .bl true)
  | .isN, [_], P => P (.imm, .bl false)
  | .notN, [.non], P => P (.imm, .bl false)
  | .notN, [_], P => P (.imm, .bl true)
  | .in_, [x, .lst xs], P => lay 60 x = true ∧ lay 60 (.lst xs) = true ∧ P (.imm, .bl (xs.any fun y => eqD y x))
  | .notin, [x, .lst xs], P => lay 60 x = true ∧ lay 60 (.lst xs) = true ∧ P (.imm, .bl (!xs.any fun y => eqD y x))
  | .in_, [x, .tup xs], P => lay 60 x = true ∧ lay 60 (.tup xs) = true ∧ P (.imm, .bl (xs.any fun y => eqD y x))
  | .notin, [x, .tup xs], P => lay 60 x = true ∧ lay 60 (.tup xs) = true ∧ P (.imm, .bl (!xs.any fun y => eqD y x))
  | .idx, [.lst xs, .int i], P => ∃ d, atI xs i = some d ∧ P (.imm, d)
  | .idx, [.frz xs, .int i], P => ∃ d, atI xs i = some d ∧ P (.imm, d)
  | .idx, [.tup xs, .int i], P => ∃ d, atI xs i = some d ∧ P (.imm, d)
  | .idx, [.str z, .int i], P => z.length ≤ line ∧ ∃ c, atI z.cps.toList i = some c ∧ P (.imm, .str ⟨#[c]⟩)
  | .idx, [.dicw kvs, .str z], P => ∃ d, dget kvs (.str z) = some d ∧ P (.imm, d)
  | .slc true true, [.lst xs, .int i, .int j], P => P (.own, .lst (cut xs (some i) (some j)))
  | .slc true false, [.lst xs, .int i], P => P (.own, .lst (cut xs (some i) none))
  | .slc false true, [.lst xs, .int j], P => P (.own, .lst (cut xs none (some j)))
  | .slc false false, [.lst xs], P => P (.own, .lst (cut xs none none))
  | .slc true true, [.frz xs, .int i, .int j], P => P (.own, .lst (cut xs (some i) (some j)))
  | .slc true false, [.frz xs, .int i], P => P (.own, .lst (cut xs (some i) none))
  | .slc false true, [.frz xs, .int j], P => P (.own, .lst (cut xs none (some j)))
  | .slc false false, [.frz xs], P => P (.own, .lst (cut xs none none))
  | .slc true true, [.tup xs, .int i, .int j], P => P (.imm, .tup (cut xs (some i) (some j)))
  | .slc true false, [.tup xs, .int i], P => P (.imm, .tup (cut xs (some i) none))
  | .slc false true, [.tup xs, .int j], P => P (.imm, .tup (cut xs none (some j)))
  | .slc false false, [.tup xs], P => P (.imm, .tup (cut xs none none))
  | .len, [.lst xs], P => P (.imm, .int xs.length)
  | .len, [.frz xs], P => P (.imm, .int xs.length)
  | .len, [.tup xs], P => P (.imm, .int xs.length)
  | .len, [.str z], P => z.length ≤ line ∧ P (.imm, .int z.length)
  | .abs, [.int i], P => P (.imm, .int i.natAbs)
  | .toInt, [.int i], P => P (.imm, .int i)
  | .toInt, [.bl b], P => P (.imm, .int (if b then 1 else 0))
  | .toList, [.lst xs], P => P (.own, .lst xs)
  | .toList, [.frz xs], P => P (.own, .lst xs)
  | .toList, [.tup xs], P => P (.own, .lst xs)
  | .toTuple, [.lst xs], P => P (.imm, .tup xs)
  | .toTuple, [.tup xs], P => P (.imm, .tup xs)
  | .isi ts, [d], P => P (.imm, .bl (ts.any fun t => hasTy t d))
  | .all, [.lst xs], P => ∃ bs, bools? xs = some bs ∧ P (.imm, .bl (bs.all id))
  | .any, [.lst xs], P => ∃ bs, bools? xs = some bs ∧ P (.imm, .bl (bs.any id))
  | .sum, [.lst xs], P => ∃ ns, ints? xs = some ns ∧ P (.imm, .int ns.sum)
  | .gcd, [.int i, .int j], P => P (.imm, .int ((Nat.gcd i.natAbs j.natAbs : Nat) : Int))
  | .rep, [.str a, .int n], P => 1 < n ∧ a.length ≠ 0 ∧ a.length * n.toNat ≤ line ∧ P (.imm, .str (repT a n.toNat))
  | .inS, [.str a, .str z], P => ∃ c, a = ⟨#[c]⟩ ∧ P (.imm, .bl (decide (c ∈ z.cps.toList)))
  | .toIntS, [.str a], P => ∃ n, intText? a = some n ∧ a.length ≤ 640 ∧ P (.imm, .int n)
  | .toStr, [.int i], P => i.natAbs.log2 < 1920 ∧ P (.imm, .str (textI i))
  | .slcS true true, [.str z, .int i, .int j], P => z.length ≤ line ∧ P (.imm, .str (cutT z (some i) (some j)))
  | .slcS true false, [.str z, .int i], P => z.length ≤ line ∧ P (.imm, .str (cutT z (some i) none))
  | .slcS false true, [.str z, .int j], P => z.length ≤ line ∧ P (.imm, .str (cutT z none (some j)))
  | .stripC, [.str a, .str b], P => a.length ≤ line ∧ P (.imm, .str (Txt.stripChars a b))
  | .startsw, [.str a, .str b], P => P (.imm, .bl (Txt.startswith a b))
  | .part, [.str a, .str b], P => b.length ≠ 0 ∧ a.length ≤ line ∧ P (.imm, .tup [.str (Txt.partition a b).1, .str (Txt.partition a b).2.1, .str (Txt.partition a b).2.2])
  | .fld i, [.exc _ _ fs], P => ∃ d, fs.lookup i = some d ∧ P (.imm, d)
  | .fld i, [.obj _ fs], P => ∃ d, fs.lookup i = some d ∧ P (.imm, d)
  | .max2, [.int i, .int j], P => P (.imm, .int (if j > i then j else i))
  | .min2, [.int i, .int j], P => P (.imm, .int (if j < i then j else i))
  | _, _, _ => False
def putFD (f : Nat) (d : D) : List (Nat × D) → List (Nat × D)
  | [] => [(f, d)]
  | (g, x) :: r => if g = f then (g, d) :: r else (g, x) :: putFD f d r
def truthD : D → Option Bool
  | .non => some false
  | .bl b => some b
  | .int i => some (i != 0)
  | .str z => if z.length ≤ line then some (z.length != 0) else none
  | .tup xs => some (!xs.isEmpty)
  | .lst xs => some (!xs.isEmpty)
  | _ => none
def insI (ds : List D) (n : Int) (x : D) : List D := ds.take n.toNat ++ [x] ++ ds.drop n.toNat
/-! ### the syntax -/
inductive Tg where
  | v (i : Nat)
  | vs (is : List Nat)
mutual
inductive T where
  /-- a name; the list that it holds is handed on -/
  | var (i : Nat)
  | cst (d : D)
  | glo (g : Nat)
  | op (f : Op) (os : Os)
  | call (f : Nat) (os : Os)
  | tup (ts : Ts)
  | lst (ts : Ts)
  | ife (c : B) (a b : T)
  | and_ (a b : T)
  | or_ (a b : T)
  | not_ (a : T)
  | comp (own : List Nat) (tg : Tg) (it : It) (c : B) (e : T)
  | fmt (ts : Ts)
  /-- what it gives is not changed any more -/
  | imm (t : T)
  /-- a flat value; the frame stays as it was (its own lists are looked at meanwhile) -/
  | pure (t : T)
  /-- a name's own list, taken; the name is no more -/
  | take (i : Nat)
  /-- t.m(..): t an instance of one of the classes cs -/
  | meth (h : Nat) (cs : List Nat) (t : T) (os : Os)
/-- operands: a name is looked at, not handed on -/
inductive Os where
  | nil
  | v (i : Nat) (r : Os)
  | e (t : T) (r : Os)
  /-- a number (a slice's part) -/
  | n (t : T) (r : Os)
inductive Ts where
  | nil
  | cons (t : T) (r : Ts)
/-- tests -/
inductive B where
  | tt
  | t (t : T)
  | look (i : Nat)
  | and_ (a b : B)
  | or_ (a b : B)
  | not_ (a : B)
inductive It where
  | seq (t : T)
  | range (os : Os)
  | chars (t : T)
  | zip (a b : T)
  | enum (a : T)
end
mutual
inductive S where
  | asg (tg : Tg) (t : T)
  | par (is : List Nat) (os : Os)
  | setIdx (i : Nat) (k : T) (t : T)
  | append (i : Nat) (t : T)
  | insert (i : Nat) (k t : T)
  /-- x.f = t -/
  | setFld (i f : Nat) (t : T)
  | ret (t : T)
  | retV (i : Nat)
  | retN
  | ife (c : B) (a b : Ss)
  | for_ (tg : Tg) (it : It) (b : Ss)
  | whl (c : B) (b : Ss)
  | ex (t : T)
  | pass | brk | cont | never
inductive Ss where
  | nil
  | cons (s : S) (r : Ss)
end
/-! ### what must hold -/
inductive Opd where
  | v (i : Nat)
  | x (a : Val)
def Opd.get (ρ : Rho) : Opd → Option D
  | .v i => (ρ.at i).map (·.2)
  | .x a => some a.2
def resolve (ρ : Rho) : List Opd → Option (List D)
  | [] => some []
  | o :: os => match o.get ρ, resolve ρ os with
    | some d, some ds => some (d :: ds)
    | _, _ => none
def argF : Fl → Fl
  | .own => .par
  | .par => .par
  | _ => .imm
def Opd.arg (ρ : Rho) : Opd → Option Val
  | .v i => (ρ.at i).map fun a => (argF a.1, a.2)
  | .x a => some (argF a.1, a.2)
def argsOf (ρ : Rho) : List Opd → Option (List Val)
  | [] => some []
  | o :: os => match o.arg ρ, argsOf ρ os with
    | some d, some ds => some (d :: ds)
    | _, _ => none
/-- the names whose own lists are handed in -/
def ownIx (ρ : Rho) : List Opd → List Nat
  | [] => []
  | .v i :: os => (match ρ.at i with
    | some (.own, _) => i :: ownIx ρ os
    | some (.par, _) => i :: ownIx ρ os
    | _ => ownIx ρ os)
  | .x _ :: os => ownIx ρ os
def nodupB : List Nat → Bool
  | [] => true
  | i :: is => !is.contains i && nodupB is
def backF (old new : Fl) : Fl := match new with
  | .parl => leakF old
  | _ => old
/-- behind a call: what the lists that were handed in hold now -/
def putOuts (ρ : Rho) : List Opd → List Val → Rho
  | .v i :: os, (.par, d) :: r => (match ρ.at i with
    | some (o, _) => putOuts (ρ.put i (some (o, d))) os r
    | none => ρ)
  | .v i :: os, (.parl, d) :: r => (match ρ.at i with
    | some (o, _) => putOuts (ρ.put i (some (leakF o, d))) os r
    | none => ρ)
  | _ :: os, _ :: r => putOuts ρ os r
  | _, _ => ρ
abbrev Q1 := Val → Rho → Prop
abbrev X1 := D → Rho → Prop
/-- a def's promise: the arguments; what is wanted of the value and of the lists handed in; of an error -/
abbrev Tr := List Val → (Val → List Val → Prop) → (D → List Val → Prop) → Prop
structure Glob where
  fn : Nat → Tr
  cst : Nat → Option D
  /-- a class's attributes -/
  has : Nat → Nat → Bool := fun _ _ => false
structure Kont where
  nx : Rho → Prop
  rt : Q1
  bk : Rho → Prop
  ct : Rho → Prop
  xx : X1
def asgVs : List Nat → List D → Rho → (Rho → Prop) → Prop
  | [], [], ρ, P => P ρ
  | i :: is, d :: ds, ρ, P => (match ρ.at i with
    | some (.par, _) => False
    | some (.parl, _) => False
    | _ => asgVs is ds (ρ.put i (some (.imm, d))) P)
  | _, _, _, _ => False
def asgTg : Tg → Val → Rho → (Rho → Prop) → Prop
  | .v i, a, ρ, P => (match ρ.at i with
    | some (.par, _) => False
    | some (.parl, _) => False
    | _ => P (ρ.put i (some a)))
  | .vs is, (_, .tup ds), ρ, P => asgVs is ds ρ P
  | .vs _, _, _, _ => False
def putVals : List Nat → List Opd → Rho → (Rho → Prop) → Prop
  | [], [], ρ, P => P ρ
  | i :: is, .x a :: ds, ρ, P => (match ρ.at i with
    | some (.par, _) => False
    | some (.parl, _) => False
    | _ => putVals is ds (ρ.put i (some a)) P)
  | _, _, _, _ => False
/-- over the items, one behind another -/
def forP {α : Type} (body : D → α → (α → Prop) → Prop) (nx : α → Prop) : List D → α → Prop
  | [], a => nx a
  | d :: ds, a => body d a (forP body nx ds)
def isTup : D → Bool
  | .tup _ => true
  | _ => false
def seqItems : D → Option (List D)
  | .lst xs => some xs
  | .frz xs => some xs
  | .tup xs => some xs
  | _ => none
def rangeI (lo : Int) : Nat → List D
  | 0 => []
  | n + 1 => .int lo :: rangeI (lo + 1) n
def charsD (z : Str) : List D := z.cps.toList.map fun c => .str ⟨#[c]⟩
def zipD : List D → List D → List D
  | x :: xs, y :: ys => .tup [x, y] :: zipD xs ys
  | _, _ => []
def enumD (i : Int) : List D → List D
  | [] => []
  | x :: xs => .tup [.int i, x] :: enumD (i + 1) xs
def rangeD : List D → Option (List D)
  | [.int j] => if -(2 ^ 62) ≤ j ∧ j < 2 ^ 62 then some (rangeI 0 j.toNat) else none
  | [.int i, .int j] => if -(2 ^ 62) ≤ i ∧ i < 2 ^ 62 ∧ -(2 ^ 62) ≤ j ∧ j < 2 ^ 62 then some (rangeI i (j - i).toNat) else none
  | _ => none
section
variable (G : Glob)
mutual
def wpE : T → Rho → Q1 → X1 → Prop
  | .var i, ρ, Q, _ => ∃ a, ρ.at i = some a ∧ Q (.imm, a.2) (ρ.leak i)
  | .cst d, ρ, Q, _ => Q (.imm, d) ρ
  | .glo g, ρ, Q, _ => ∃ d, G.cst g = some d ∧ Q (.imm, d) ρ
  | .op f os, ρ, Q, X => wpOs os ρ (fun l ρ' => ∃ ds, resolve ρ' l = some ds ∧ opP f ds fun r => Q r ρ') X
  | .call f os, ρ, Q, X => wpOs os ρ (fun l ρ' => ∃ vs, argsOf ρ' l = some vs ∧ nodupB (ownIx ρ' l) = true ∧
      G.fn f vs (fun r outs => Q r (putOuts ρ' l outs)) (fun x outs => X x (putOuts ρ' l outs))) X
  | .tup ts, ρ, Q, X => wpTs ts ρ (fun ds ρ' => Q (.imm, .tup ds) ρ') X
  | .lst ts, ρ, Q, X => wpTs ts ρ (fun ds ρ' => Q (.own, .lst ds) ρ') X
  | .ife c a b, ρ, Q, X => wpB c ρ (fun k ρ' => if k = true then wpE a ρ' Q X else wpE b ρ' Q X) X
  | .and_ a b, ρ, Q, X => wpE a ρ (fun v ρ' => ∃ k, v.2 = .bl k ∧ if k = true then wpE b ρ' Q X else Q (.imm, .bl false) ρ') X
  | .or_ a b, ρ, Q, X => wpE a ρ (fun v ρ' => ∃ k, v.2 = .bl k ∧ if k = true then Q (.imm, .bl true) ρ' else wpE b ρ' Q X) X
  | .not_ a, ρ, Q, X => wpE a ρ (fun v ρ' => ∃ k, v.2 = .bl k ∧ Q (.imm, .bl !k) ρ') X
  | .comp own tg it c e, ρ, Q, X => wpIt it ρ (fun items ρ' => items.length ≤ line ∧ wipeB ρ' own = true ∧
      forP (α := List D × Rho) (fun d a K => asgTg tg (.imm, d) a.2 fun ρ1 => wpB c ρ1 (fun k ρ2 =>
          if k = true then wpE e ρ2 (fun v ρ3 => K (a.1 ++ [v.2], ρ3.wipe own)) (fun _ _ => False) else K (a.1, ρ2.wipe own)) (fun _ _ => False))
        (fun a => Q (.own, .lst a.1) a.2) items ([], ρ'.wipe own)) X
  | .fmt ts, ρ, Q, X => wpF ts Str.empty ρ (fun z ρ' => Q (.imm, .str z) ρ') X
  | .imm t, ρ, Q, X => wpE t ρ (fun a ρ' => Q (leakF a.1, a.2) ρ') X
  | .pure t, ρ, Q, _ => wpE t ρ.calm (fun a _ => flatD a.2 = true ∧ Q (.imm, a.2) ρ) (fun _ _ => False)
  | .take i, ρ, Q, _ => (match ρ.at i with
      | some (.own, d) => Q (.own, d) (ρ.put i none)
      | some (.imm, d) => Q (.imm, d) ρ
      | _ => False)
  | .meth h cs t os, ρ, Q, X => wpE t ρ (fun a ρ1 => (∃ c fs, a = (.imm, .obj c fs) ∧ c ∈ cs) ∧ wpOs os ρ1 (fun l ρ' => ∃ vs, argsOf ρ' (.x a :: l) = some vs ∧ nodupB (ownIx ρ' (.x a :: l)) = true ∧
      G.fn h vs (fun r outs => Q r (putOuts ρ' (.x a :: l) outs)) (fun x outs => X x (putOuts ρ' (.x a :: l) outs))) X) X
def wpF : Ts → Str → Rho → (Str → Rho → Prop) → X1 → Prop
  | .nil, acc, ρ, K, _ => K acc ρ
  | .cons t r, acc, ρ, K, X => wpE t ρ (fun a ρ1 => ∃ y, fmt1 a.2 = some y ∧ (acc ++ y).length ≤ line ∧ wpF r (acc ++ y) ρ1 K X) X
def wpOs : Os → Rho → (List Opd → Rho → Prop) → X1 → Prop
  | .nil, ρ, K, _ => K [] ρ
  | .v i r, ρ, K, X => (match ρ.at i with
      | none => False
      | some _ => wpOs r ρ (fun l ρ' => K (.v i :: l) ρ') X)
  | .e t r, ρ, K, X => wpE t ρ (fun a ρ1 => wpOs r ρ1 (fun l ρ' => K (.x a :: l) ρ') X) X
  | .n t r, ρ, K, X => wpE t ρ (fun a ρ1 => match a.2 with
      | .int _ => wpOs r ρ1 (fun l ρ' => K (.x a :: l) ρ') X
      | _ => False) X
def wpTs : Ts → Rho → (List D → Rho → Prop) → X1 → Prop
  | .nil, ρ, K, _ => K [] ρ
  | .cons t r, ρ, K, X => wpE t ρ (fun a ρ1 => wpTs r ρ1 (fun l ρ' => K (a.2 :: l) ρ') X) X
def wpB : B → Rho → (Bool → Rho → Prop) → X1 → Prop
  | .tt, ρ, Q, _ => Q true ρ
  | .t t, ρ, Q, X => wpE t ρ (fun v ρ' => ∃ k, truthD v.2 = some k ∧ Q k ρ') X
  | .look i, ρ, Q, _ => ∃ a k, ρ.at i = some a ∧ truthD a.2 = some k ∧ Q k ρ
  | .and_ a b, ρ, Q, X => wpB a ρ (fun k ρ' => if k = true then wpB b ρ' Q X else Q false ρ') X
  | .or_ a b, ρ, Q, X => wpB a ρ (fun k ρ' => if k = true then Q true ρ' else wpB b ρ' Q X) X
  | .not_ a, ρ, Q, X => wpB a ρ (fun k ρ' => Q (!k) ρ') X
def wpIt : It → Rho → (List D → Rho → Prop) → X1 → Prop
  | .seq t, ρ, K, X => wpE t ρ (fun v ρ' => ∃ ds, seqItems v.2 = some ds ∧ K ds ρ') X
  | .range os, ρ, K, X => wpOs os ρ (fun l ρ' => ∃ ds is, resolve ρ' l = some ds ∧ rangeD ds = some is ∧ K is ρ') X
  | .chars t, ρ, K, X => wpE t ρ (fun v ρ' => match v.2 with
      | .str z => K (charsD z) ρ'
      | _ => False) X
  | .zip a b, ρ, K, X => wpE a ρ (fun v ρ1 => wpE b ρ1 (fun w ρ2 => ∃ ds es, seqItems v.2 = some ds ∧ seqItems w.2 = some es ∧ isTup v.2 = isTup w.2 ∧ K (zipD ds es) ρ2) X) X
  | .enum a, ρ, K, X => wpE a ρ (fun v ρ1 => ∃ ds, seqItems v.2 = some ds ∧ isTup v.2 = false ∧ K (enumD 0 ds) ρ1) X
end
mutual
def wpS : S → Rho → Kont → Prop
  | .asg tg t, ρ, K => wpE G t ρ (fun a ρ' => asgTg tg a ρ' K.nx) K.xx
  | .par is os, ρ, K => wpOs G os ρ (fun l ρ' => putVals is.reverse l.reverse ρ' K.nx) K.xx
  | .setIdx i k t, ρ, K => wpE G t ρ (fun a ρ1 => (∃ b, ρ1.at i = some b) ∧ wpE G k ρ1 (fun j ρ2 => match ρ2.at i, j.2 with
      | some (f, .lst ds), .int n => ownF f = true ∧ ∃ m, ixN ds.length n = some m ∧ K.nx (ρ2.put i (some (f, .lst (ds.set m a.2))))
      | _, _ => False) K.xx) K.xx
  | .append i t, ρ, K => (∃ f ds, ρ.at i = some (f, .lst ds)) ∧ wpE G t ρ (fun a ρ1 => match ρ1.at i with
      | some (f, .lst ds) => ownF f = true ∧ ds.length < line ∧ K.nx (ρ1.put i (some (f, .lst (ds ++ [a.2]))))
      | _ => False) K.xx
  | .insert i k t, ρ, K => (∃ f ds, ρ.at i = some (f, .lst ds)) ∧ wpE G k ρ (fun j ρ1 => wpE G t ρ1 (fun a ρ2 => match ρ2.at i, j.2 with
      | some (f, .lst ds), .int n => ownF f = true ∧ 0 ≤ n ∧ n < 2 ^ 62 ∧ ds.length < line ∧ K.nx (ρ2.put i (some (f, .lst (insI ds n a.2))))
      | _, _ => False) K.xx) K.xx
  | .setFld i f t, ρ, K => wpE G t ρ (fun a ρ1 => match ρ1.at i with
      | some (fl, .obj c fs) => ownF fl = true ∧ G.has c f = true ∧ fs.length < 100 ∧ K.nx (ρ1.put i (some (fl, .obj c (putFD f a.2 fs))))
      | _ => False) K.xx
  | .ret t, ρ, K => wpE G t ρ K.rt K.xx
  | .retV i, ρ, K => (match ρ.at i with
      | some (.own, d) => K.rt (.own, d) (ρ.put i none)
      | some (.par, d) => K.rt (.imm, d) (ρ.put i (some (.parl, d)))
      | some (_, d) => K.rt (.imm, d) ρ
      | none => False)
  | .retN, ρ, K => K.rt (.imm, .non) ρ
  | .ife c a b, ρ, K => wpB G c ρ (fun k ρ' => if k = true then wpSs a ρ' K else wpSs b ρ' K) K.xx
  | .for_ tg it b, ρ, K => wpIt G it ρ (fun items ρ' => forP (fun d ρ1 k => asgTg tg (.imm, d) ρ1 fun ρ2 => wpSs b ρ2 ⟨k, K.rt, K.nx, k, K.xx⟩) K.nx items ρ') K.xx
  | .whl c b, ρ, K => ∃ W : Nat → Rho → Prop, (∃ m, W m ρ) ∧ ∀ m ρ, W m ρ → wpB G c ρ (fun k ρ' =>
      if k = true then wpSs b ρ' ⟨fun ρ1 => ∃ m', m' < m ∧ W m' ρ1, K.rt, K.nx, fun ρ1 => ∃ m', m' < m ∧ W m' ρ1, K.xx⟩ else K.nx ρ') K.xx
  | .ex t, ρ, K => wpE G t ρ (fun _ ρ' => K.nx ρ') K.xx
  | .pass, ρ, K => K.nx ρ
  | .brk, ρ, K => K.bk ρ
  | .cont, ρ, K => K.ct ρ
  | .never, _, _ => False
def wpSs : Ss → Rho → Kont → Prop
  | .nil, ρ, K => K.nx ρ
  | .cons s r, ρ, K => wpS s ρ { K with nx := fun ρ' => wpSs r ρ' K }
end
end
/-- what the lists that were handed in hold at the end -/
def outsOf : List Val → Rho → Option (List Val)
  | [], _ => some []
  | (.par, _) :: vs, some (.par, d) :: ρ => (outsOf vs ρ).map ((.par, d) :: ·)
  | (.par, _) :: vs, some (.parl, d) :: ρ => (outsOf vs ρ).map ((.parl, d) :: ·)
  | (.par, _) :: _, _ => none
  | a :: vs, _ :: ρ => (outsOf vs ρ).map (a :: ·)
  | _ :: _, [] => none
/-- a def: its body, run at its arguments -/
def runF (G : Glob) (np nl : Nat) (body : Ss) : Tr := fun vs Q X =>
  vs.length = np ∧ wpSs G body (vs.map some ++ List.replicate nl none)
    ⟨fun ρ => ∃ os, outsOf vs ρ = some os ∧ Q (.imm, .non) os, fun a ρ => ∃ os, outsOf vs ρ = some os ∧ Q a os, fun _ => False, fun _ => False,
      fun x ρ => ∃ os, outsOf vs ρ = some os ∧ X x os⟩
end Ev
set_option Elab.async false
set_option linter.all false
set_option autoImplicit false
set_option maxRecDepth 100000
set_option maxHeartbeats 1000000
/-! what a head's run looks at: Bool functions alone (no walk in sight; so the run may stand first in a proof, while memory is free) -/
namespace Ev
open PySem PySem.Spec PyProof.Rows L2
def bltNames : List Str := ["len", "abs", "int", "list", "tuple", "all", "any", "sum", "max", "min", "isinstance", "range", "zip", "enumerate", "bool", "str", "dict", "sorted", "ValueError", "LookupError", "IndexError"]
def oexB (K : PySem.W.Frag) (C : Addr) : Bool := (match K.lookup C with
  | some ⟨.type "type", _, .cls cd, sl⟩ => (match cd.mro, sl.toList with
    | .ref C' :: bm, [_, _, _, _, some (.builtin n), _] => C' == C && (n == "ValueError.__new__" && (!cd.hasDel && (cd.hasDict && PySem.HandSPX.refsVE bm)))
    | _, _ => false)
  | _ => false) && (He.eqO (PySem.W.findIn K (.ref C) "__setattr__") (some (some (.builtin "object.__setattr__"))) && (decide (PySem.W.subIn K (.ref C) (.type "BaseException") = some true) && (decide (PySem.W.typeIn K (.ref C) = some (.type "type")) && PySem.W.keepIn K (.ref C))))
def kitB (K : PySem.W.Frag) (C : Addr) (n : String) (b : Bool) : Bool := decide (PySem.W.kitOne K (.ref C) (.type n) = some b)
def kiteB (K : PySem.W.Frag) (C : Addr) (an : List Nat) : Bool := (PySem.W.clsIn K C).isSome && (He.eqO (PySem.W.findIn K (.ref C) "__getattribute__") (some (some (.builtin "BaseException.__getattribute__"))) && ((PySem.W.findIn K (.ref C) "__getattr__").isSome && (decide (PySem.W.subIn K (.ref C) (.type "BaseException") = some true) &&
  (He.eqO (PySem.W.findIn K (.ref C) "__class__") (some (some (.builtin "object.__class__"))) && (He.eqO (PySem.W.specialIn K (.builtin "object.__class__") "__get__") (some (some (.builtin "getset_descriptor.__get__"))) && (decide (PySem.W.takesIn K (.builtin "object.__class__") = some true) && (decide (PySem.W.mroIn K C (.type "object") = some true) &&
  ((["int", "bool", "str", "list", "tuple", "dict"] : List String).all (fun n => kitB K C n false) && (kitB K C "ValueError" (an.contains 1000) && (kitB K C "LookupError" (an.contains 1001) && kitB K C "IndexError" (an.contains 1002)))))))))))
abbrev AlE : Type := (He.AlD × List (Option (List (Option (Str × Int))))) × Bool
def kitcB (K : PySem.W.Frag) (C : Addr) : Bool := He.eqO (PySem.W.findIn K (.ref C) "__class__") (some (some (.builtin "object.__class__"))) && (He.eqO (PySem.W.specialIn K (.builtin "object.__class__") "__get__") (some (some (.builtin "getset_descriptor.__get__"))) && (decide (PySem.W.takesIn K (.builtin "object.__class__") = some true) && (decide (PySem.W.mroIn K C (.type "object") = some true) &&
  (["int", "bool", "str", "list", "tuple", "dict", "ValueError", "LookupError", "IndexError"] : List String).all (fun n => kitB K C n false))))
def kittB (K : PySem.W.Frag) (C : Addr) : Bool := (["NoneType", "int", "bool", "str", "list", "tuple", "dict"] : List String).all fun n => decide (PySem.W.kitOne K (.type n) (.ref C) = some false)
def statB (K : PySem.W.Frag) (C : Addr) (m : Str) : Bool := He.eqO (PySem.W.specialIn K (.ref C) "__getattribute__") (some (some (.builtin "type.__getattribute__"))) && (decide (PySem.W.typeIn K (.ref C) = some (.type "type")) && (PySem.W.readsIn K C (.type "type") && (He5.wrapB K C "staticmethod" "staticmethod.__get__" m && PySem.W.keepIn K (.ref (He5.wf K C "staticmethod" m)))))
def propB (K : PySem.W.Frag) (C : Addr) (m : Str) : Bool := He.eqO (PySem.W.findIn K (.ref C) m) (some (some (.ref (He.ma K C m)))) && (He.eqO (PySem.W.specialIn K (.ref (He.ma K C m)) "__get__") (some (some (.builtin "property.__get__"))) && (decide (PySem.W.takesIn K (.ref (He.ma K C m)) = some true) && (match PySem.W.recIn K (He.ma K C m) "property" with
  | some (.ref _ :: _) => true
  | _ => false)))
mutual
def kstB (K : PySem.W.Frag) : D → Value → Bool
  | .non, .none => true
  | .bl b, .bool c => b == c
  | .int i, .int j _ => decide (i = j)
  | .str z, .str y _ => decide (z = y)
  | .tup ds, .ref p => (match K.lookup p with
    | some ⟨.type c, _, .seq its _, _⟩ => decide (c = "tuple") && (decide (its.size ≤ sizeLine) && kstL K ds its.toList)
    | _ => false)
  | _, _ => false
def kstL (K : PySem.W.Frag) : List D → List Value → Bool
  | [], [] => true
  | d :: ds, u :: us => kstB K d u && kstL K ds us
  | _, _ => false
end
def gkB (K : PySem.W.Frag) (x : Str) (d : D) : Bool := match PySem.W.nsIn K mainGlobals x with
  | some (some u) => kstB K d u
  | _ => false
structure Tbl where
  /-- constants -/
  cn : List (Nat × (Str × D)) := []
  /-- dicts of the module's top -/
  dn : List (Nat × (Str × List (Str × Int))) := []
  /-- classes -/
  cl : List (Nat × Str) := []
  fl : List (Nat × Str) := []
  /-- those of instances, their attributes -/
  okL : List Nat := []
  hasL : List (Nat × Nat) := []
  /-- those of errors -/
  xL : List (Nat × List Nat) := []
  gcd : Bool := true
def Tbl.nm (T : Tbl) (c : Nat) : Str := (T.cl.lookup c).getD ""
def Tbl.cls (T : Tbl) (K : PySem.W.Frag) (c : Nat) : Addr := He.ga K (T.nm c)
def fldN (l : List (Nat × Str)) (i : Nat) : Str := match l.lookup i with
  | some n => n
  | none => ⟨#[2000000 + i]⟩
def Tbl.exB (T : Tbl) (K : PySem.W.Frag) : Bool :=
  (!T.gcd || He.eqO (PySem.W.nsIn K mainGlobals "gcd") (some (some (.builtin "math.gcd")))) &&
  (bltNames.all (fun x => (He.Fa.free x).ok K) &&
  (T.cl.all (fun p => decide (T.nm p.1 = p.2) && (He.Fa.glo p.2).ok K) &&
  (T.okL.all (fun c => (He.Fa.cls (T.nm c)).ok K && kitcB K (T.cls K c)) &&
  (T.hasL.all (fun p => T.okL.contains p.1 && He.eqO (PySem.W.findIn K (.ref (T.cls K p.1)) (fldN T.fl p.2)) (some none)) &&
  (T.xL.all (fun q => kiteB K (T.cls K q.1) q.2) &&
  (T.cl.all (fun p => kittB K (T.cls K p.1) && (T.okL.all (fun c => decide (PySem.W.kitOne K (.ref (T.cls K c)) (.ref (T.cls K p.1)) = some (p.1 == c))) && T.xL.all (fun q => decide (PySem.W.kitOne K (.ref (T.cls K q.1)) (.ref (T.cls K p.1)) = some (q.2.contains p.1))))) &&
  (T.cn.all (fun p => gkB K p.2.1 p.2.2) &&
  T.dn.all (fun p => (He.Fa.glo p.2.1).ok K && He.valsB K (He.ga K p.2.1) (p.2.2.map fun q => (q.1, He.Dv.int q.2))))))))))
def Tbl.ts (T : Tbl) : List He.Tab := T.dn.map fun p => (fun K => He.ga K p.2.1, p.2.2.map (·.1))
def obsE (n : Nat) (fa : List He.Fa) (fn : List He5.DefA) (ts : List He.Tab) (ex : PySem.W.Frag → Bool) (g : Addr → Option Obj) : AlE := ((He5.obsA fa fn (He.frG g (He5.asA g n)), ts.map fun t => He.dicW (He.frG g (He5.asA g n)) (t.1 (He.frG g (He5.asA g n)))), ex (He.frG g (He5.asA g n)))
/-- a hook that says nothing -/
def hook0 (n : Nat) (fa : List He.Fa) (fn : List He5.DefA) (ts : List He.Tab) (ex : PySem.W.Frag → Bool) : PySem.W.Hook where
  α := AlE
  obs := fun s => obsE n fa fn ts ex s.heap.get?
  val := fun w => ((He5.valA fn, ts.map fun t => some (He.keysIn w.params t.2)), true)
  says := fun _ _ => True
  of := fun _ _ _ => True.intro
  keeps := fun _ _ _ _ _ => True.intro
end Ev
set_option Elab.async false
set_option linter.all false
set_option autoImplicit false
set_option maxRecDepth 100000
set_option maxHeartbeats 0
namespace Ev
namespace Lw
namespace k09
open PySem PySem.Spec PyProof.Rows L2
abbrev row := PySem.Challenge.rw_lostland_k09_kinds_of_tables.prog
def top (i : Nat) : Stmt := row.main.body.getD i (.Pass ⟨0, 0, 0, 0⟩)
def clsB : Stmt → List Stmt
  | .ClassDef _ _ _ b _ _ _ _ _ _ _ => b
  | _ => []
def inCls (i j : Nat) : Stmt := (clsB (top i)).getD j (.Pass ⟨0, 0, 0, 0⟩)
def d_0 : He5.DefA := ⟨(fun K => He.ga K "_is_number"), "_is_number", "_is_number", defArgs (top 9), defBody (top 9), defScope (top 9), [], []⟩
def d_1 : He5.DefA := ⟨(fun K => He.ga K "is_fraction"), "is_fraction", "is_fraction", defArgs (top 10), defBody (top 10), defScope (top 10), [], []⟩
def d_2 : He5.DefA := ⟨(fun K => He.ga K "fraction"), "fraction", "fraction", defArgs (top 12), defBody (top 12), defScope (top 12), [.int 1], []⟩
def d_3 : He5.DefA := ⟨(fun K => He.ga K "plus"), "plus", "plus", defArgs (top 13), defBody (top 13), defScope (top 13), [], []⟩
def d_4 : He5.DefA := ⟨(fun K => He.ga K "minus"), "minus", "minus", defArgs (top 14), defBody (top 14), defScope (top 14), [], []⟩
def d_5 : He5.DefA := ⟨(fun K => He.ga K "times"), "times", "times", defArgs (top 15), defBody (top 15), defScope (top 15), [], []⟩
def d_6 : He5.DefA := ⟨(fun K => He.ga K "negative"), "negative", "negative", defArgs (top 16), defBody (top 16), defScope (top 16), [], []⟩
def d_7 : He5.DefA := ⟨(fun K => He.ga K "is_kind"), "is_kind", "is_kind", defArgs (top 25), defBody (top 25), defScope (top 25), [], []⟩
def d_8 : He5.DefA := ⟨(fun K => He.ga K "is_free_kind"), "is_free_kind", "is_free_kind", defArgs (top 26), defBody (top 26), defScope (top 26), [], []⟩
def d_9 : He5.DefA := ⟨(fun K => He.ga K "own_count"), "own_count", "own_count", defArgs (top 27), defBody (top 27), defScope (top 27), [], []⟩
def d_10 : He5.DefA := ⟨(fun K => He.ga K "table_of"), "table_of", "table_of", defArgs (top 28), defBody (top 28), defScope (top 28), [], []⟩
def d_11 : He5.DefA := ⟨(fun K => He.ga K "own_numbers"), "own_numbers", "own_numbers", defArgs (top 29), defBody (top 29), defScope (top 29), [], []⟩
def d_12 : He5.DefA := ⟨(fun K => He.ga K "fits"), "fits", "fits", defArgs (top 30), defBody (top 30), defScope (top 30), [], []⟩
def d_13 : He5.DefA := ⟨(fun K => He.ga K "_law_bag"), "_law_bag", "_law_bag", defArgs (top 32), defBody (top 32), defScope (top 32), [], []⟩
def d_14 : He5.DefA := ⟨(fun K => He.ga K "_law_draw"), "_law_draw", "_law_draw", defArgs (top 33), defBody (top 33), defScope (top 33), [], []⟩
def d_15 : He5.DefA := ⟨(fun K => He.ga K "_law_pick"), "_law_pick", "_law_pick", defArgs (top 34), defBody (top 34), defScope (top 34), [], []⟩
def d_16 : He5.DefA := ⟨(fun K => He.ga K "_law_same"), "_law_same", "_law_same", defArgs (top 35), defBody (top 35), defScope (top 35), [], []⟩
def d_17 : He5.DefA := ⟨(fun K => He.ga K "_law_common"), "_law_common", "_law_common", defArgs (top 36), defBody (top 36), defScope (top 36), [], []⟩
def d_18 : He5.DefA := ⟨(fun K => He.ga K "_law_low"), "_law_low", "_law_low", defArgs (top 37), defBody (top 37), defScope (top 37), [], []⟩
def d_19 : He5.DefA := ⟨(fun K => He.ga K "_law_sum"), "_law_sum", "_law_sum", defArgs (top 38), defBody (top 38), defScope (top 38), [], []⟩
def d_20 : He5.DefA := ⟨(fun K => He.ga K "_law_product"), "_law_product", "_law_product", defArgs (top 39), defBody (top 39), defScope (top 39), [], []⟩
def d_21 : He5.DefA := ⟨(fun K => He.ga K "_law_long"), "_law_long", "_law_long", defArgs (top 40), defBody (top 40), defScope (top 40), [], []⟩
def d_22 : He5.DefA := ⟨(fun K => He.ga K "_law_fraction"), "_law_fraction", "_law_fraction", defArgs (top 41), defBody (top 41), defScope (top 41), [], []⟩
def d_23 : He5.DefA := ⟨(fun K => He.ga K "_law_small"), "_law_small", "_law_small", defArgs (top 42), defBody (top 42), defScope (top 42), [], []⟩
def d_24 : He5.DefA := ⟨(fun K => He.ga K "_law_near"), "_law_near", "_law_near", defArgs (top 43), defBody (top 43), defScope (top 43), [], []⟩
def d_25 : He5.DefA := ⟨(fun K => He.ga K "_law_table"), "_law_table", "_law_table", defArgs (top 44), defBody (top 44), defScope (top 44), [], []⟩
def d_26 : He5.DefA := ⟨(fun K => He.ga K "_law_words"), "_law_words", "_law_words", defArgs (top 45), defBody (top 45), defScope (top 45), [], []⟩
def d_27 : He5.DefA := ⟨(fun K => He.ga K "_law_many"), "_law_many", "_law_many", defArgs (top 46), defBody (top 46), defScope (top 46), [], []⟩
def d_28 : He5.DefA := ⟨(fun K => He.ga K "_law_filled"), "_law_filled", "_law_filled", defArgs (top 47), defBody (top 47), defScope (top 47), [], []⟩
def d_29 : He5.DefA := ⟨(fun K => He.ga K "_law_read_off"), "_law_read_off", "_law_read_off", defArgs (top 48), defBody (top 48), defScope (top 48), [], []⟩
def d_30 : He5.DefA := ⟨(fun K => He.ga K "_law_made"), "_law_made", "_law_made", defArgs (top 49), defBody (top 49), defScope (top 49), [], []⟩
def d_31 : He5.DefA := ⟨(fun K => He.ga K "_law_bent"), "_law_bent", "_law_bent", defArgs (top 50), defBody (top 50), defScope (top 50), [], []⟩
def d_32 : He5.DefA := ⟨(fun K => He.ga K "_law_words_so"), "_law_words_so", "_law_words_so", defArgs (top 51), defBody (top 51), defScope (top 51), [], []⟩
def d_33 : He5.DefA := ⟨(fun K => He.ga K "_law_numbers_so"), "_law_numbers_so", "_law_numbers_so", defArgs (top 52), defBody (top 52), defScope (top 52), [], []⟩
def d_34 : He5.DefA := ⟨(fun K => He.ga K "_law_judged_so"), "_law_judged_so", "_law_judged_so", defArgs (top 53), defBody (top 53), defScope (top 53), [], []⟩
def d_35 : He5.DefA := ⟨(fun K => He.ga K "law"), "law", "law", defArgs (top 54), defBody (top 54), defScope (top 54), [], []⟩
def d_36 : He5.DefA := ⟨(fun K => He.ma K (He.ga K "Table") "__init__"), "__init__", "Table.__init__", defArgs (inCls 20 0), defBody (inCls 20 0), defScope (inCls 20 0), [], []⟩
def d_37 : He5.DefA := ⟨(fun K => He.ma K (He.ga K "Table") "__add__"), "__add__", "Table.__add__", defArgs (inCls 20 3), defBody (inCls 20 3), defScope (inCls 20 3), [], []⟩
def d_38 : He5.DefA := ⟨(fun K => He.ma K (He.ga K "Table") "__sub__"), "__sub__", "Table.__sub__", defArgs (inCls 20 4), defBody (inCls 20 4), defScope (inCls 20 4), [], []⟩
def d_39 : He5.DefA := ⟨(fun K => He.ma K (He.ga K "Table") "__neg__"), "__neg__", "Table.__neg__", defArgs (inCls 20 5), defBody (inCls 20 5), defScope (inCls 20 5), [], []⟩
def d_40 : He5.DefA := ⟨(fun K => He.ma K (He.ga K "Table") "scaled"), "scaled", "Table.scaled", defArgs (inCls 20 7), defBody (inCls 20 7), defScope (inCls 20 7), [], []⟩
def d_41 : He5.DefA := ⟨(fun K => He.ma K (He.ga K "Table") "entries"), "entries", "Table.entries", defArgs (inCls 20 9), defBody (inCls 20 9), defScope (inCls 20 9), [], []⟩
def d_42 : He5.DefA := ⟨(fun K => He5.wf K (He.ga K "Table") "staticmethod" "zero"), "zero", "Table.zero", defArgs (inCls 20 11), defBody (inCls 20 11), defScope (inCls 20 11), [], []⟩
def d_43 : He5.DefA := ⟨(fun K => He.ma K (He.ga K "Table") "__eq__"), "__eq__", "Table.__eq__", defArgs (inCls 20 12), defBody (inCls 20 12), defScope (inCls 20 12), [], []⟩
def fn : List He5.DefA := [d_0, d_1, d_2, d_3, d_4, d_5, d_6, d_7, d_8, d_9, d_10, d_11, d_12, d_13, d_14, d_15, d_16, d_17, d_18, d_19, d_20, d_21, d_22, d_23, d_24, d_25, d_26, d_27, d_28, d_29, d_30, d_31, d_32, d_33, d_34, d_35, d_36, d_37, d_38, d_39, d_40, d_41, d_42, d_43]
def fa : List He.Fa := [.glo "_is_number", .glo "is_fraction", .glo "fraction", .glo "plus", .glo "minus", .glo "times", .glo "negative", .glo "is_kind", .glo "is_free_kind", .glo "own_count", .glo "table_of", .glo "own_numbers", .glo "fits", .glo "_law_bag", .glo "_law_draw", .glo "_law_pick", .glo "_law_same", .glo "_law_common", .glo "_law_low", .glo "_law_sum", .glo "_law_product", .glo "_law_long", .glo "_law_fraction", .glo "_law_small", .glo "_law_near", .glo "_law_table", .glo "_law_words", .glo "_law_many", .glo "_law_filled", .glo "_law_read_off", .glo "_law_made", .glo "_law_bent", .glo "_law_words_so", .glo "_law_numbers_so", .glo "_law_judged_so", .glo "law", .mkr "Table", .glo "Table", .meth "Table" "__eq__", .meth "Table" "entries", .meth "Table" "__neg__", .meth "Table" "scaled", .meth "Table" "__sub__", .meth "Table" "__add__"]
def TT : Tbl where
  cn := [(1, ("KINDS", .tup [.str "slanted", .str "turned", .str "mirrored", .str "stretched", .str "sized", .str "even"])), (2, ("_FREE_KINDS", .tup [.str "slanted", .str "turned", .str "mirrored"])), (4, ("ZERO", .tup [.int 0, .int 1]))]
  dn := [(3, ("_COUNTS", [("slanted", 4), ("turned", 2), ("mirrored", 2), ("stretched", 2), ("sized", 1), ("even", 1)]))]
  cl := [(0, "Table")]
  fl := [(0, "d"), (1, "c"), (2, "b"), (3, "a")]
  okL := [0]
  hasL := [(0, 3), (0, 2), (0, 1), (0, 0)]
  gcd := true
def exL (K : PySem.W.Frag) : List Bool := [statB K (He.ga K "Table") "zero", PySem.W.selfFirst K (He.ga K "Table")]
def ex (K : PySem.W.Frag) : Bool := TT.exB K && (exL K).all id
def lo0 : List Str := ["_wall", "MapError", "InvalidFraction", "ZeroDivisor", "InvalidSpot", "ZERO", "_is_number", "is_fraction", "is_spot", "fraction", "plus", "minus", "times", "negative", "fraction_text", "_applied", "Table", "KINDS", "_FREE_KINDS", "_COUNTS", "is_kind", "is_free_kind", "own_count", "table_of", "own_numbers", "fits", "_law_bag", "_law_draw", "_law_pick", "_law_same"]
def lo1 : List Str := ["_law_common", "_law_low", "_law_sum", "_law_product", "_law_long", "_law_fraction", "_law_small", "_law_near", "_law_table", "_law_words", "_law_many", "_law_filled", "_law_read_off", "_law_made", "_law_bent", "_law_words_so", "_law_numbers_so", "_law_judged_so"]
def lo : List Str := lo0 ++ lo1
abbrev R : PySem.W.OpenRow := PySem.W.OpenLaw.row PySem.Challenge.rw_lostland_k09_kinds_of_tables
abbrev qv : Program := PySem.W.view R.prog [0, 54]
def ob (s : PySem.W.SharedT) : AlE := obsE 8 fa fn TT.ts ex (HandSHeadRun.getT s)
abbrev hk0 : PySem.W.Hook := hook0 8 fa fn TT.ts ex
theorem runF (w : World) : HandSHeadRun.RunEqI R qv hk0 ob 40000 lo (w.withFollow "special-get-raises" false) := by
  unfold HandSHeadRun.RunEqI
  kernel_rfl
theorem runT (w : World) : HandSHeadRun.RunEqI R qv hk0 ob 40000 lo (w.withFollow "special-get-raises" true) := by
  unfold HandSHeadRun.RunEqI
  kernel_rfl
theorem run0 (w : World) : HandSHeadRun.RunEqI R qv hk0 ob 40000 lo w := by
  have h : ∀ b : Bool, HandSHeadRun.RunEqI R qv hk0 ob 40000 lo (w.withFollow "special-get-raises" b) := fun b => by
    cases b
    · exact runF w
    · exact runT w
  have z := h (w.params.followText "special-get-raises")
  rwa [World.withFollow_self] at z
end k09
end Lw
end Ev
set_option Elab.async false
set_option linter.all false
set_option autoImplicit false
set_option maxRecDepth 100000
set_option maxHeartbeats 1000000
namespace Ev
open PySem PySem.Spec PyProof.Rows L2
/-! ### lists of names -/
theorem at_get : ∀ {ρ : Rho} {i : Nat} {a : Val}, ρ.at i = some a ↔ ρ[i]? = some (some a)
  | [], i, a => by simp [Rho.at]
  | v :: r, 0, a => by simp [Rho.at]
  | v :: r, i + 1, a => by
    show Rho.at r i = some a ↔ _
    rw [List.getElem?_cons_succ]
    exact at_get
theorem put_set : ∀ (ρ : Rho) (i : Nat) (a : Option Val), ρ.put i a = ρ.set i a
  | [], i, a => by simp [Rho.put]
  | v :: r, 0, a => by simp [Rho.put]
  | v :: r, i + 1, a => by
    show v :: Rho.put r i a = _
    rw [put_set r i a, List.set_cons_succ]
theorem put_len (ρ : Rho) (i : Nat) (a : Option Val) : (ρ.put i a).length = ρ.length := by rw [put_set, List.length_set]
theorem leak_len (ρ : Rho) (i : Nat) : (ρ.leak i).length = ρ.length := by
  unfold Rho.leak
  split <;> first | rfl | exact put_len _ _ _
theorem wipe_len (ρ : Rho) : ∀ is : List Nat, (ρ.wipe is).length = ρ.length
  | [] => rfl
  | i :: is => by
    show ((Rho.wipe ρ is).put i none).length = _
    rw [put_len, wipe_len ρ is]
theorem set_app {α : Type} (l r : List α) (i : Nat) (a : α) (h : i < l.length) : (l ++ r).set i a = l.set i a ++ r := by
  rw [List.set_append_left i a h]
theorem at_lt {ρ : Rho} {i : Nat} {a : Val} (h : ρ.at i = some a) : i < ρ.length := by
  have h' := at_get.mp h
  exact (List.getElem?_eq_some_iff.mp h').1
theorem get_app {α : Type} {l r : List α} {i : Nat} {a : α} (h : l[i]? = some a) : (l ++ r)[i]? = some a := by
  rw [List.getElem?_append_left (List.getElem?_eq_some_iff.mp h).1]
  exact h
theorem app_get {α : Type} {l r : List α} {i : Nat} (h : i < l.length) : (l ++ r)[i]? = l[i]? := List.getElem?_append_left h
/-! ### values on the heap -/
/-- where the classes stand, how the attributes are called -/
structure Nm where
  K : PySem.W.Frag
  cls : Nat → Addr
  fld : Nat → Str
  ok : Nat → Prop
  /-- their attributes -/
  has : Nat → Nat → Prop
  w : World
  /-- error classes, with all classes that they are of -/
  xok : Nat → List Nat → Prop
def KL (K : PySem.W.Frag) (a : Addr) (xs : List V) : Prop :=
  ∃ (o : Obj) (its : Array Value) (n : Nat), K.lookup a = some o ∧ o.cls = .type "list" ∧ o.dict = none ∧ o.data = .seq its n ∧ its.size ≤ sizeLine ∧ Vals xs its.toList
def KT (K : PySem.W.Frag) (a : Addr) (xs : List V) : Prop :=
  ∃ (o : Obj) (its : Array Value) (n : Nat), K.lookup a = some o ∧ o.cls = .type "tuple" ∧ o.data = .seq its n ∧ its.size ≤ sizeLine ∧ Vals xs its.toList
def AtL (K : PySem.W.Frag) (I : Addr → Prop) (H : Hp) (p : Addr) (vs : List V) : Prop := (I p ∧ Rd H p (.lst vs)) ∨ KL K p vs
def AtT (K : PySem.W.Frag) (I : Addr → Prop) (H : Hp) (p : Addr) (vs : List V) : Prop := (I p ∧ Rd H p (.tup vs)) ∨ KT K p vs
theorem AtL.sq {K : PySem.W.Frag} {I : Addr → Prop} {H : Hp} {p : Addr} {vs : List V} (h : AtL K I H p vs) : SqL K H p vs := h.elim (fun z => .inl z.2) .inr
theorem AtT.sq {K : PySem.W.Frag} {I : Addr → Prop} {H : Hp} {p : Addr} {vs : List V} (h : AtT K I H p vs) : SqT K H p vs := h.elim (fun z => .inl z.2) .inr
/-- a dict of the written part: texts to ints -/
def WD (N : Nm) (p : Addr) (kvs : List (D × D)) : Prop := (∃ o, N.K.lookup p = some o ∧ o.cls = .type "dict") ∧ ∀ z d, dget kvs (.str z) = some d → ∃ i, d = .int i ∧ KDct N.K N.w p z (.int i)
def keyD : Key → D
  | .inl i => .int i
  | .inr x => .str x
mutual
def Rep (N : Nm) (I : Addr → Prop) (H : Hp) : D → V → Prop
  | .non, v => v = .non
  | .bl b, v => v = .bl b
  | .int i, v => v = .int i
  | .str s, v => v = .str s
  | .tup ds, v => ∃ p vs, v = .ref p ∧ AtT N.K I H p vs ∧ RepL N I H ds vs
  | .lst ds, v => ∃ p vs, v = .ref p ∧ (I p ∧ H p = some (.lst vs)) ∧ RepL N I H ds vs
  | .frz ds, v => ∃ p vs, v = .ref p ∧ AtL N.K I H p vs ∧ RepL N I H ds vs
  | .dic kvs, v => ∃ p, v = .ref p ∧ I p ∧ ((∃ hs, H p = some (.dK hs) ∧ RepKV N I H kvs hs) ∨ ∃ hs, H p = some (.dT hs) ∧ RepTV N I H kvs hs)
  | .dicw kvs, v => ∃ p, v = .ref p ∧ WD N p kvs
  | .obj c fs, v => (N.ok c ∧ ∀ q ∈ fs, N.has c q.1) ∧ ∃ p dx hs, v = .ref p ∧ I p ∧ H p = some (.ins (N.cls c) dx hs) ∧ RepF N I H fs hs
  | .exc c an fs, v => N.xok c an ∧ ∃ p dx hs, v = .ref p ∧ I p ∧ I dx ∧ H p = some (exo p (N.cls c) (some dx)) ∧ H dx = some (exd dx hs) ∧ RepF N I H fs hs
def RepL (N : Nm) (I : Addr → Prop) (H : Hp) : List D → List V → Prop
  | [], vs => vs = []
  | d :: ds, vs => ∃ v r, vs = v :: r ∧ Rep N I H d v ∧ RepL N I H ds r
def RepKV (N : Nm) (I : Addr → Prop) (H : Hp) : List (D × D) → List (Key × V) → Prop
  | [], hs => hs = []
  | (k, d) :: ds, hs => ∃ q v r, hs = (q, v) :: r ∧ k = keyD q ∧ Rep N I H d v ∧ RepKV N I H ds r
def RepTV (N : Nm) (I : Addr → Prop) (H : Hp) : List (D × D) → List (List Key × V) → Prop
  | [], hs => hs = []
  | (k, d) :: ds, hs => ∃ q v r, hs = (q, v) :: r ∧ k = .tup (q.map keyD) ∧ Rep N I H d v ∧ RepTV N I H ds r
def RepF (N : Nm) (I : Addr → Prop) (H : Hp) : List (Nat × D) → List (Str × V) → Prop
  | [], hs => hs = []
  | (f, d) :: ds, hs => ∃ v r, hs = (N.fld f, v) :: r ∧ Rep N I H d v ∧ RepF N I H ds r
end
section
variable {N : Nm} {I I' : Addr → Prop} {H H' : Hp}
theorem Rd.mono {p : Addr} {o : HO} (k : ∀ u, H p = some u → H' p = some u) (h : Rd H p o) : Rd H' p o := by
  rcases h with h | ⟨u, h⟩
  · exact .inl (k _ h)
  · exact .inr ⟨u, k _ h⟩
theorem AtL.mono {p : Addr} {vs : List V} {K : PySem.W.Frag} (hI : ∀ p, I p → I' p) (hH : ∀ p o, I p → H p = some o → H' p = some o) (h : AtL K I H p vs) : AtL K I' H' p vs :=
  h.elim (fun z => .inl ⟨hI _ z.1, Rd.mono (fun u => hH p u z.1) z.2⟩) .inr
theorem AtT.mono {p : Addr} {vs : List V} {K : PySem.W.Frag} (hI : ∀ p, I p → I' p) (hH : ∀ p o, I p → H p = some o → H' p = some o) (h : AtT K I H p vs) : AtT K I' H' p vs :=
  h.elim (fun z => .inl ⟨hI _ z.1, Rd.mono (fun u => hH p u z.1) z.2⟩) .inr
mutual
theorem Rep.mono (hI : ∀ p, I p → I' p) (hH : ∀ p o, I p → H p = some o → H' p = some o) : ∀ (d : D) (v : V), Rep N I H d v → Rep N I' H' d v
  | .non, _, h => h
  | .bl _, _, h => h
  | .int _, _, h => h
  | .str _, _, h => h
  | .tup ds, _, ⟨p, vs, e, a, r⟩ => ⟨p, vs, e, a.mono hI hH, RepL.mono hI hH ds vs r⟩
  | .lst ds, _, ⟨p, vs, e, a, r⟩ => ⟨p, vs, e, ⟨hI _ a.1, hH _ _ a.1 a.2⟩, RepL.mono hI hH ds vs r⟩
  | .frz ds, _, ⟨p, vs, e, a, r⟩ => ⟨p, vs, e, a.mono hI hH, RepL.mono hI hH ds vs r⟩
  | .dic kvs, _, ⟨p, e, ip, h⟩ => ⟨p, e, hI p ip, h.elim (fun ⟨hs, a, r⟩ => .inl ⟨hs, hH _ _ ip a, RepKV.mono hI hH kvs hs r⟩) fun ⟨hs, a, r⟩ => .inr ⟨hs, hH _ _ ip a, RepTV.mono hI hH kvs hs r⟩⟩
  | .dicw kvs, _, h => h
  | .obj c fs, _, ⟨o, p, dx, hs, e, ip, a, r⟩ => ⟨o, p, dx, hs, e, hI p ip, hH _ _ ip a, RepF.mono hI hH fs hs r⟩
  | .exc c an fs, _, ⟨o, p, dx, hs, e, ip, ix, a, b, r⟩ => ⟨o, p, dx, hs, e, hI p ip, hI dx ix, hH _ _ ip a, hH _ _ ix b, RepF.mono hI hH fs hs r⟩
theorem RepL.mono (hI : ∀ p, I p → I' p) (hH : ∀ p o, I p → H p = some o → H' p = some o) : ∀ (ds : List D) (vs : List V), RepL N I H ds vs → RepL N I' H' ds vs
  | [], _, h => h
  | d :: ds, _, ⟨v, r, e, a, b⟩ => ⟨v, r, e, Rep.mono hI hH d v a, RepL.mono hI hH ds r b⟩
theorem RepKV.mono (hI : ∀ p, I p → I' p) (hH : ∀ p o, I p → H p = some o → H' p = some o) : ∀ (ds : List (D × D)) (vs : List (Key × V)), RepKV N I H ds vs → RepKV N I' H' ds vs
  | [], _, h => h
  | (k, d) :: ds, _, ⟨q, v, r, e, a, b, c⟩ => ⟨q, v, r, e, a, Rep.mono hI hH d v b, RepKV.mono hI hH ds r c⟩
theorem RepTV.mono (hI : ∀ p, I p → I' p) (hH : ∀ p o, I p → H p = some o → H' p = some o) : ∀ (ds : List (D × D)) (vs : List (List Key × V)), RepTV N I H ds vs → RepTV N I' H' ds vs
  | [], _, h => h
  | (k, d) :: ds, _, ⟨q, v, r, e, a, b, c⟩ => ⟨q, v, r, e, a, Rep.mono hI hH d v b, RepTV.mono hI hH ds r c⟩
theorem RepF.mono (hI : ∀ p, I p → I' p) (hH : ∀ p o, I p → H p = some o → H' p = some o) : ∀ (ds : List (Nat × D)) (vs : List (Str × V)), RepF N I H ds vs → RepF N I' H' ds vs
  | [], _, h => h
  | (f, d) :: ds, _, ⟨v, r, e, a, b⟩ => ⟨v, r, e, Rep.mono hI hH d v a, RepF.mono hI hH ds r b⟩
end
theorem RepL.len : ∀ {ds : List D} {vs : List V}, RepL N I H ds vs → vs.length = ds.length
  | [], _, h => by rw [h]; rfl
  | d :: ds, _, ⟨v, r, e, a, b⟩ => by rw [e, List.length_cons, List.length_cons, RepL.len b]
theorem RepL.get : ∀ {ds : List D} {vs : List V} {i : Nat} {d : D}, RepL N I H ds vs → ds[i]? = some d → ∃ v, vs[i]? = some v ∧ Rep N I H d v
  | [], _, i, d, h, e => by simp at e
  | d :: ds, _, 0, x, ⟨v, r, e, a, b⟩, z => by
    subst e
    have : d = x := Option.some.inj z
    subst this
    exact ⟨v, rfl, a⟩
  | d :: ds, _, i + 1, x, ⟨v, r, e, a, b⟩, z => by
    subst e
    exact RepL.get (i := i) b z
theorem RepL.get' : ∀ {ds : List D} {vs : List V} {i : Nat} {v : V}, RepL N I H ds vs → vs[i]? = some v → ∃ d, ds[i]? = some d ∧ Rep N I H d v
  | [], _, i, v, h, e => by
    have h : _ = [] := h
    subst h
    simp at e
  | d :: ds, _, 0, x, ⟨v, r, e, a, b⟩, z => by
    subst e
    have : v = x := Option.some.inj z
    subst this
    exact ⟨d, rfl, a⟩
  | d :: ds, _, i + 1, x, ⟨v, r, e, a, b⟩, z => by
    subst e
    exact RepL.get' (i := i) b z
theorem RepL.app : ∀ {ds es : List D} {vs us : List V}, RepL N I H ds vs → RepL N I H es us → RepL N I H (ds ++ es) (vs ++ us)
  | [], _, _, _, h, k => by
    have h : _ = [] := h
    subst h
    exact k
  | d :: ds, _, _, _, ⟨v, r, e, a, b⟩, k => by
    subst e
    exact ⟨v, r ++ _, rfl, a, RepL.app b k⟩
theorem RepL.set : ∀ {ds : List D} {vs : List V} (i : Nat) {d : D} {v : V}, RepL N I H ds vs → Rep N I H d v → RepL N I H (ds.set i d) (vs.set i v)
  | [], _, i, _, _, h, k => by
    have h : _ = [] := h
    subst h
    exact rfl
  | d :: ds, _, 0, _, _, ⟨v, r, e, a, b⟩, k => by
    subst e
    exact ⟨_, _, rfl, k, b⟩
  | d :: ds, _, i + 1, _, _, ⟨v, r, e, a, b⟩, k => by
    subst e
    exact ⟨_, _, rfl, a, RepL.set i b k⟩
theorem RepL.drop : ∀ {ds : List D} {vs : List V} (i : Nat), RepL N I H ds vs → RepL N I H (ds.drop i) (vs.drop i)
  | [], _, i, h => by
    have h : _ = [] := h
    subst h
    simp [RepL]
  | d :: ds, _, 0, h => h
  | d :: ds, _, i + 1, ⟨v, r, e, a, b⟩ => by
    subst e
    exact RepL.drop i b
theorem RepL.take : ∀ {ds : List D} {vs : List V} (i : Nat), RepL N I H ds vs → RepL N I H (ds.take i) (vs.take i)
  | [], _, i, h => by
    have h : _ = [] := h
    subst h
    simp [RepL]
  | d :: ds, _, 0, h => rfl
  | d :: ds, _, i + 1, ⟨v, r, e, a, b⟩ => by
    subst e
    exact ⟨_, _, rfl, a, RepL.take i b⟩
end
/-- a list, a dict, an object that one name alone holds -/
def OwnC (N : Nm) (I : Addr → Prop) (H : Hp) (p : Addr) : D → Prop
  | .lst ds => ∃ vs, H p = some (.lst vs) ∧ RepL N I H ds vs
  | .dic kvs => (∃ hs, H p = some (.dK hs) ∧ RepKV N I H kvs hs) ∨ ∃ hs, H p = some (.dT hs) ∧ RepTV N I H kvs hs
  | .obj c fs => (N.ok c ∧ ∀ q ∈ fs, N.has c q.1) ∧ ∃ dx hs, H p = some (.ins (N.cls c) dx hs) ∧ RepF N I H fs hs
  | _ => False
def RepV (N : Nm) (I : Addr → Prop) (H : Hp) (a : Val) (v : V) : Prop := if ownF a.1 = true then ∃ p, v = .ref p ∧ ¬ I p ∧ OwnC N I H p a.2 else Rep N I H a.2 v
section
variable {N : Nm} {I I' : Addr → Prop} {H H' : Hp}
theorem OwnC.mono (hI : ∀ p, I p → I' p) (hH : ∀ p o, I p → H p = some o → H' p = some o) {p : Addr} (hp : ∀ o, H p = some o → H' p = some o) : ∀ {d : D}, OwnC N I H p d → OwnC N I' H' p d
  | .lst ds, ⟨vs, e, r⟩ => ⟨vs, hp _ e, RepL.mono hI hH ds vs r⟩
  | .dic kvs, h => h.elim (fun ⟨hs, e, r⟩ => .inl ⟨hs, hp _ e, RepKV.mono hI hH kvs hs r⟩) fun ⟨hs, e, r⟩ => .inr ⟨hs, hp _ e, RepTV.mono hI hH kvs hs r⟩
  | .obj c fs, ⟨o, dx, hs, e, r⟩ => ⟨o, dx, hs, hp _ e, RepF.mono hI hH fs hs r⟩
theorem OwnC.there {p : Addr} : ∀ {d : D}, OwnC N I H p d → ∃ o, H p = some o
  | .lst ds, ⟨vs, e, r⟩ => ⟨_, e⟩
  | .dic kvs, h => h.elim (fun ⟨hs, e, r⟩ => ⟨_, e⟩) fun ⟨hs, e, r⟩ => ⟨_, e⟩
  | .obj c fs, ⟨o, dx, hs, e, r⟩ => ⟨_, e⟩
/-- handed on -/
theorem OwnC.rep {p : Addr} (ip : I p) : ∀ {d : D}, OwnC N I H p d → Rep N I H d (.ref p)
  | .lst ds, ⟨vs, e, r⟩ => ⟨p, vs, rfl, ⟨ip, e⟩, r⟩
  | .dic kvs, h => ⟨p, rfl, ip, h⟩
  | .obj c fs, ⟨o, dx, hs, e, r⟩ => ⟨o, p, dx, hs, rfl, ip, e, r⟩
end
/-! ### the state -/
structure Th where
  H0 : Hp
  I0 : Addr → Prop
  W : Addr → Prop
  /-- the lists handed in, by the parameter's place -/
  ps : List (Option Addr)
structure R (N : Nm) (Θ : Th) (I : Addr → Prop) (w : List (Option V)) (H : Hp) (e : Rho) : Prop where
  rep : ∀ (i : Nat) (a : Val), e[i]? = some (some a) → ∃ v, w[i]? = some (some v) ∧ RepV N I H a v
  dis : ∀ (i j : Nat) (p : Addr) (a b : Val), e[i]? = some (some a) → e[j]? = some (some b) → ownF a.1 = true → ownF b.1 = true → w[i]? = some (some (V.ref p)) → w[j]? = some (some (V.ref p)) → i = j
  keep : ∀ p o, Θ.H0 p = some o → ¬ Θ.W p → H p = some o
  dom : ∀ p o, Θ.H0 p = some o → ∃ u, H p = some u
  inc : ∀ p, Θ.I0 p → I p
  bnd : ∀ p, I p → Θ.I0 p ∨ Θ.W p ∨ Θ.H0 p = none
  there : ∀ p, I p → ∃ o, H p = some o
  wr : ∀ (i : Nat) (a : Val) (p : Addr), e[i]? = some (some a) → ownF a.1 = true → w[i]? = some (some (V.ref p)) → Θ.W p ∨ Θ.H0 p = none
  pin : ∀ (i : Nat) (p : Addr), Θ.ps[i]? = some (some p) → w[i]? = some (some (V.ref p)) ∧ ∃ a : Val, e[i]? = some (some a) ∧ (a.1 = .par ∨ (a.1 = .parl ∧ I p))
section
variable {N : Nm} {Θ : Th} {I I' : Addr → Prop} {w : List (Option V)} {H H' : Hp} {e : Rho}
theorem repV_own {a : Val} {v : V} (h : ownF a.1 = true) : RepV N I H a v ↔ ∃ p, v = .ref p ∧ ¬ I p ∧ OwnC N I H p a.2 := by unfold RepV; rw [if_pos h]
theorem repV_imm {a : Val} {v : V} (h : ownF a.1 = false) : RepV N I H a v ↔ Rep N I H a.2 v := by
  unfold RepV
  rw [if_neg (by rw [h]; exact Bool.false_ne_true)]
theorem RepV.mono {a : Val} {v : V} (hI : ∀ p, I p → I' p) (hH : ∀ p o, I p → H p = some o → H' p = some o) (hp : ∀ p, v = .ref p → ownF a.1 = true → ¬ I' p ∧ ∀ o, H p = some o → H' p = some o) (h : RepV N I H a v) : RepV N I' H' a v := by
  cases q : ownF a.1 with
  | true =>
    obtain ⟨p, e, n, c⟩ := (repV_own q).mp h
    obtain ⟨n', k⟩ := hp p e q
    exact (repV_own q).mpr ⟨p, e, n', c.mono hI hH k⟩
  | false => exact (repV_imm q).mpr (Rep.mono hI hH _ _ ((repV_imm q).mp h))
/-- the heap grows -/
theorem R.grow (r : R N Θ I w H e) (k : ∀ p o, H p = some o → H' p = some o) : R N Θ I w H' e where
  rep := fun i a h => by
    obtain ⟨v, hv, q⟩ := r.rep i a h
    refine ⟨v, hv, q.mono (fun _ z => z) (fun p o _ z => k p o z) fun p ep ow => ⟨?_, k p⟩⟩
    obtain ⟨p', e', n, _⟩ := (repV_own ow).mp q
    rw [ep] at e'
    cases e'
    exact n
  dis := r.dis
  keep := fun p o h n => k _ _ (r.keep p o h n)
  dom := fun p o h => let ⟨u, q⟩ := r.dom p o h; ⟨u, k _ _ q⟩
  inc := r.inc
  bnd := r.bnd
  there := fun p h => let ⟨o, q⟩ := r.there p h; ⟨o, k _ _ q⟩
  wr := r.wr
  pin := r.pin
theorem get_snoc {α : Type} {l : List α} {x y : α} {i : Nat} (h : (l ++ [x])[i]? = some y) : l[i]? = some y ∨ (i = l.length ∧ y = x) := by
  by_cases hi : i < l.length
  · rw [List.getElem?_append_left hi] at h
    exact .inl h
  · rw [List.getElem?_append_right (by omega)] at h
    have z : i - l.length = 0 := by
      by_cases z : i - l.length = 0
      · exact z
      · rw [List.getElem?_eq_none (by simp; omega)] at h
        cases h
    rw [z] at h
    exact .inr ⟨by omega, (Option.some.inj h).symm⟩
/-- a value that never changes is at hand -/
theorem R.push (r : R N Θ I w H e) (hl : w.length = e.length) {f : Fl} {d : D} {v : V} (hf : ownF f = false) (h : Rep N I H d v) : R N Θ I (w ++ [some v]) H (e ++ [some (f, d)]) where
  rep := fun i a q => by
    rcases get_snoc q with q | ⟨ei, eq⟩
    · obtain ⟨v', hv, z⟩ := r.rep i a q
      exact ⟨v', get_app hv, z⟩
    · cases eq
      subst ei
      exact ⟨v, by rw [← hl]; simp, (repV_imm hf).mpr h⟩
  dis := fun i j p a b q1 q2 o1 o2 w1 w2 => by
    rcases get_snoc q1 with q1 | ⟨ei, eq⟩
    · rcases get_snoc q2 with q2 | ⟨ej, eq2⟩
      · have l1 := (List.getElem?_eq_some_iff.mp q1).1
        have l2 := (List.getElem?_eq_some_iff.mp q2).1
        rw [app_get (by omega)] at w1 w2
        exact r.dis i j p a b q1 q2 o1 o2 w1 w2
      · cases eq2
        rw [hf] at o2
        cases o2
    · cases eq
      rw [hf] at o1
      cases o1
  keep := r.keep
  dom := r.dom
  inc := r.inc
  bnd := r.bnd
  there := r.there
  wr := fun i a p q o w1 => by
    rcases get_snoc q with q | ⟨ei, eq⟩
    · have l1 := (List.getElem?_eq_some_iff.mp q).1
      rw [app_get (by omega)] at w1
      exact r.wr i a p q o w1
    · cases eq
      rw [hf] at o
      cases o
  pin := fun i p h => let ⟨a, b, c, d⟩ := r.pin i p h; ⟨get_app a, b, get_app c, d⟩
/-- a new list (dict, object) of one's own is at hand -/
theorem R.pushOwn (r : R N Θ I w H e) (hl : w.length = e.length) {p : Addr} {o : HO} {d : D} (hn : H p = none) (h : OwnC N I (upd H p o) p d) : R N Θ I (w ++ [some (.ref p)]) (upd H p o) (e ++ [some (.own, d)]) := by
  have k : ∀ b u, H b = some u → (upd H p o) b = some u := fun b u z => by rw [upd_ne (ne_of_none z hn)]; exact z
  have r' := r.grow k
  have nI : ¬ I p := fun z => by
    obtain ⟨u, q⟩ := r.there p z
    rw [hn] at q
    cases q
  have h0 : Θ.H0 p = none := by
    cases q : Θ.H0 p with
    | none => rfl
    | some u =>
      obtain ⟨u', q'⟩ := r.dom p u q
      rw [hn] at q'
      cases q'
  refine ⟨fun i a q => ?_, fun i j p' a b q1 q2 o1 o2 w1 w2 => ?_, r'.keep, r'.dom, r'.inc, r'.bnd, r'.there, fun i a p' q ow w1 => ?_, fun i p h => let ⟨a, b, c, d⟩ := r.pin i p h; ⟨get_app a, b, get_app c, d⟩⟩
  · rcases get_snoc q with q | ⟨ei, eq⟩
    · obtain ⟨v', hv, z⟩ := r'.rep i a q
      exact ⟨v', get_app hv, z⟩
    · cases eq
      subst ei
      exact ⟨.ref p, by rw [← hl]; simp, (repV_own rfl).mpr ⟨p, rfl, nI, h⟩⟩
  · have old : ∀ (i : Nat) (a : Val), e[i]? = some (some a) → ownF a.1 = true → w[i]? = some (some (V.ref p)) → False := fun i a q ow z => by
      obtain ⟨v, hv, rv⟩ := r.rep i a q
      rw [z] at hv
      cases hv
      obtain ⟨p2, e2, _, c⟩ := (repV_own ow).mp rv
      cases e2
      obtain ⟨u, hu⟩ := c.there
      rw [hn] at hu
      cases hu
    rcases get_snoc q1 with q1 | ⟨ei, eq⟩
    · have l1 := (List.getElem?_eq_some_iff.mp q1).1
      rw [app_get (by omega)] at w1
      rcases get_snoc q2 with q2 | ⟨ej, eq2⟩
      · have l2 := (List.getElem?_eq_some_iff.mp q2).1
        rw [app_get (by omega)] at w2
        exact r.dis i j p' a b q1 q2 o1 o2 w1 w2
      · subst ej
        rw [← hl, List.getElem?_append_right (Nat.le_refl _)] at w2
        simp at w2
        subst w2
        exact (old i a q1 o1 w1).elim
    · subst ei
      rw [← hl, List.getElem?_append_right (Nat.le_refl _)] at w1
      simp at w1
      subst w1
      rcases get_snoc q2 with q2 | ⟨ej, eq2⟩
      · have l2 := (List.getElem?_eq_some_iff.mp q2).1
        rw [app_get (by omega)] at w2
        exact (old j b q2 o2 w2).elim
      · exact ej.symm
  · rcases get_snoc q with q | ⟨ei, eq⟩
    · have l1 := (List.getElem?_eq_some_iff.mp q).1
      rw [app_get (by omega)] at w1
      exact r.wr i a p' q ow w1
    · subst ei
      rw [← hl, List.getElem?_append_right (Nat.le_refl _)] at w1
      simp at w1
      subst w1
      exact .inr h0
/-- more is known never to change: what was not anyone's own -/
theorem R.more (r : R N Θ I w H e) {p : Addr} (hp : ∃ o, H p = some o) (hb : Θ.I0 p ∨ Θ.W p ∨ Θ.H0 p = none) (hn : ∀ (i : Nat) (a : Val), e[i]? = some (some a) → ownF a.1 = true → w[i]? ≠ some (some (V.ref p))) :
    R N Θ (fun q => I q ∨ q = p) w H e where
  rep := fun i a h => by
    obtain ⟨v, hv, q⟩ := r.rep i a h
    refine ⟨v, hv, q.mono (fun _ z => .inl z) (fun _ _ _ z => z) fun p' ep ow => ⟨fun z => ?_, fun o z => z⟩⟩
    obtain ⟨p2, e2, n, _⟩ := (repV_own ow).mp q
    rw [ep] at e2
    cases e2
    rcases z with z | z
    · exact n z
    · subst z
      exact hn i a h ow (by rw [hv, ep])
  dis := r.dis
  keep := r.keep
  dom := r.dom
  inc := fun q z => .inl (r.inc q z)
  bnd := fun q z => z.elim (r.bnd q) fun z => by rw [z]; exact hb
  there := fun q z => z.elim (r.there q) fun z => by rw [z]; exact hp
  wr := r.wr
  pin := fun i p h => let ⟨a, b, c, d⟩ := r.pin i p h; ⟨a, b, c, d.imp id fun z => ⟨z.1, .inl z.2⟩⟩
/-- a name is forgotten, or stands for a value that never changes -/
theorem R.put (r : R N Θ I w H e) (i : Nat) (x : Option Val) (v : Option V) (hx : ∀ a, x = some a → ownF a.1 = false ∧ ∃ u, v = some u ∧ Rep N I H a.2 u) (hl : i < w.length) (hpar : ∀ a, e[i]? = some (some a) → a.1 ≠ .par ∧ a.1 ≠ .parl) : R N Θ I (w.set i v) H (e.set i x) where
  rep := fun j a h => by
    by_cases hj : i = j
    · subst hj
      have l1 := (List.getElem?_eq_some_iff.mp h).1
      rw [List.length_set] at l1
      rw [List.getElem?_set_self l1] at h
      cases h
      obtain ⟨ow, u, rfl, q⟩ := hx a rfl
      exact ⟨u, by rw [List.getElem?_set_self hl], (repV_imm ow).mpr q⟩
    · rw [List.getElem?_set_ne hj] at h ⊢
      exact r.rep j a h
  dis := fun j k p a b q1 q2 o1 o2 w1 w2 => by
    have ne : ∀ (j : Nat) (a : Val), (e.set i x)[j]? = some (some a) → ownF a.1 = true → i ≠ j := fun j a h ow z => by
      subst z
      have l1 := (List.getElem?_eq_some_iff.mp h).1
      rw [List.length_set] at l1
      rw [List.getElem?_set_self l1] at h
      cases h
      rw [(hx a rfl).1] at ow
      cases ow
    have n1 := ne j a q1 o1
    have n2 := ne k b q2 o2
    rw [List.getElem?_set_ne n1] at q1 w1
    rw [List.getElem?_set_ne n2] at q2 w2
    exact r.dis j k p a b q1 q2 o1 o2 w1 w2
  keep := r.keep
  dom := r.dom
  inc := r.inc
  bnd := r.bnd
  there := r.there
  wr := fun j a p h ow w1 => by
    have n1 : i ≠ j := fun z => by
      subst z
      have l1 := (List.getElem?_eq_some_iff.mp h).1
      rw [List.length_set] at l1
      rw [List.getElem?_set_self l1] at h
      cases h
      rw [(hx a rfl).1] at ow
      cases ow
    rw [List.getElem?_set_ne n1] at h w1
    exact r.wr j a p h ow w1
  pin := fun j p h => by
    obtain ⟨a, b, c, d⟩ := r.pin j p h
    have n1 : i ≠ j := fun z => by
      subst z
      obtain ⟨k1, k2⟩ := hpar b c
      exact d.elim k1 fun z => k2 z.1
    rw [List.getElem?_set_ne n1, List.getElem?_set_ne n1]
    exact ⟨a, b, c, d⟩
/-- a list of one's own that stands already is at hand -/
theorem R.pushO (r : R N Θ I w H e) (hl : w.length = e.length) {p : Addr} {d : D} (h : OwnC N I H p d) (nI : ¬ I p) (hw : Θ.W p ∨ Θ.H0 p = none) (nd : ∀ (i : Nat) (a : Val), e[i]? = some (some a) → ownF a.1 = true → w[i]? ≠ some (some (V.ref p))) :
    R N Θ I (w ++ [some (.ref p)]) H (e ++ [some (.own, d)]) := by
  refine ⟨fun i a q => ?_, fun i j p' a b q1 q2 o1 o2 w1 w2 => ?_, r.keep, r.dom, r.inc, r.bnd, r.there, fun i a p' q ow w1 => ?_, fun i p h => let ⟨a, b, c, d⟩ := r.pin i p h; ⟨get_app a, b, get_app c, d⟩⟩
  · rcases get_snoc q with q | ⟨ei, eq⟩
    · obtain ⟨v', hv, z⟩ := r.rep i a q
      exact ⟨v', get_app hv, z⟩
    · cases eq
      subst ei
      exact ⟨.ref p, by rw [← hl]; simp, (repV_own rfl).mpr ⟨p, rfl, nI, h⟩⟩
  · rcases get_snoc q1 with q1 | ⟨ei, eq⟩
    · have l1 := (List.getElem?_eq_some_iff.mp q1).1
      rw [app_get (by omega)] at w1
      rcases get_snoc q2 with q2 | ⟨ej, eq2⟩
      · have l2 := (List.getElem?_eq_some_iff.mp q2).1
        rw [app_get (by omega)] at w2
        exact r.dis i j p' a b q1 q2 o1 o2 w1 w2
      · subst ej
        rw [← hl, List.getElem?_append_right (Nat.le_refl _)] at w2
        simp at w2
        subst w2
        exact (nd i a q1 o1 w1).elim
    · subst ei
      rw [← hl, List.getElem?_append_right (Nat.le_refl _)] at w1
      simp at w1
      subst w1
      rcases get_snoc q2 with q2 | ⟨ej, eq2⟩
      · have l2 := (List.getElem?_eq_some_iff.mp q2).1
        rw [app_get (by omega)] at w2
        exact (nd j b q2 o2 w2).elim
      · exact ej.symm
  · rcases get_snoc q with q | ⟨ei, eq⟩
    · have l1 := (List.getElem?_eq_some_iff.mp q).1
      rw [app_get (by omega)] at w1
      exact r.wr i a p' q ow w1
    · subst ei
      rw [← hl, List.getElem?_append_right (Nat.le_refl _)] at w1
      simp at w1
      subst w1
      exact hw
/-- what is last at hand is dropped -/
theorem R.pop {x : Option V} {y : Option Val} (r : R N Θ I (w ++ [x]) H (e ++ [y])) (hl : w.length = e.length) (hps : Θ.ps.length ≤ e.length) : R N Θ I w H e where
  rep := fun i a h => by
    have l1 := (List.getElem?_eq_some_iff.mp h).1
    obtain ⟨v, hv, q⟩ := r.rep i a (get_app h)
    rw [app_get (by omega)] at hv
    exact ⟨v, hv, q⟩
  dis := fun i j p a b q1 q2 o1 o2 w1 w2 => r.dis i j p a b (get_app q1) (get_app q2) o1 o2 (get_app w1) (get_app w2)
  keep := r.keep
  dom := r.dom
  inc := r.inc
  bnd := r.bnd
  there := r.there
  wr := fun i a p q o w1 => r.wr i a p (get_app q) o (get_app w1)
  pin := fun i p h => by
    have l1 := (List.getElem?_eq_some_iff.mp h).1
    obtain ⟨a, b, c, d⟩ := r.pin i p h
    rw [app_get (by omega)] at a c
    exact ⟨a, b, c, d⟩
/-- a list of one's own is handed on -/
theorem R.leak (r : R N Θ I w H e) {i : Nat} {f : Fl} {d : D} (h : e[i]? = some (some (f, d))) (hf : ownF f = true) :
    ∃ I' : Addr → Prop, (∀ p, I p → I' p) ∧ R N Θ I' w H (e.set i (some (leakF f, d))) ∧ ∃ v, w[i]? = some (some v) ∧ Rep N I' H d v := by
  obtain ⟨v, hv, q⟩ := r.rep i _ h
  obtain ⟨p, rfl, nI, c⟩ := (repV_own (a := (f, d)) hf).mp q
  have hw : Θ.I0 p ∨ Θ.W p ∨ Θ.H0 p = none := .inr (r.wr i _ p h hf hv)
  have hle : i < e.length := (List.getElem?_eq_some_iff.mp h).1
  have lf : ownF (leakF f) = false := by cases f <;> first | rfl | cases hf
  have up : ∀ q, I q → (I q ∨ q = p) := fun _ z => .inl z
  have rp : Rep N (fun q => I q ∨ q = p) H d (.ref p) := OwnC.rep (.inr rfl) (OwnC.mono up (fun _ _ _ z => z) (fun _ z => z) c)
  refine ⟨fun q => I q ∨ q = p, up, ⟨fun j a z => ?_, fun j k p' a b z1 z2 o1 o2 w1 w2 => ?_, r.keep, r.dom, fun q z => .inl (r.inc q z), fun q z => z.elim (r.bnd q) fun z => by rw [z]; exact hw, fun q z => z.elim (r.there q) fun z => by rw [z]; exact c.there, fun j a p' z ow w1 => ?_, fun j p' z => ?_⟩, .ref p, hv, rp⟩
  · by_cases hj : i = j
    · subst hj
      rw [List.getElem?_set_self hle] at z
      cases z
      exact ⟨.ref p, hv, (repV_imm lf).mpr rp⟩
    · rw [List.getElem?_set_ne hj] at z
      obtain ⟨v, hv', q'⟩ := r.rep j a z
      refine ⟨v, hv', q'.mono up (fun _ _ _ z => z) fun p2 e2 ow => ⟨fun z2 => ?_, fun _ z => z⟩⟩
      subst e2
      obtain ⟨p3, e3, n3, _⟩ := (repV_own ow).mp q'
      cases e3
      rcases z2 with z2 | z2
      · exact n3 z2
      · subst z2
        exact hj (r.dis i j p2 _ _ h z hf ow hv hv')
  · have ne : ∀ (j : Nat) (a : Val), (e.set i (some (leakF f, d)))[j]? = some (some a) → ownF a.1 = true → i ≠ j := fun j a z ow y => by
      subst y
      rw [List.getElem?_set_self hle] at z
      cases z
      rw [lf] at ow
      cases ow
    have n1 := ne j a z1 o1
    have n2 := ne k b z2 o2
    rw [List.getElem?_set_ne n1] at z1
    rw [List.getElem?_set_ne n2] at z2
    exact r.dis j k p' a b z1 z2 o1 o2 w1 w2
  · have n1 : i ≠ j := fun y => by
      subst y
      rw [List.getElem?_set_self hle] at z
      cases z
      rw [lf] at ow
      cases ow
    rw [List.getElem?_set_ne n1] at z
    exact r.wr j a p' z ow w1
  · obtain ⟨a, b, c', d'⟩ := r.pin j p' z
    by_cases hj : i = j
    · subst hj
      rw [h] at c'
      cases c'
      refine ⟨a, _, List.getElem?_set_self hle, ?_⟩
      rcases d' with d' | d'
      · rw [show f = .par from d']
        rw [hv] at a
        cases a
        exact .inr ⟨rfl, .inr rfl⟩
      · rw [show f = .parl from d'.1] at hf
        cases hf
    · rw [List.getElem?_set_ne hj]
      exact ⟨a, b, c', d'.imp id fun z => ⟨z.1, .inl z.2⟩⟩
/-- a list of one's own is changed -/
theorem R.write (r : R N Θ I w H e) {i : Nat} {f : Fl} {d d' : D} {p : Addr} {o : HO} (h : e[i]? = some (some (f, d))) (hf : ownF f = true) (hv : w[i]? = some (some (V.ref p))) (c : OwnC N I (upd H p o) p d') :
    R N Θ I w (upd H p o) (e.set i (some (f, d'))) := by
  obtain ⟨v, hv', q⟩ := r.rep i _ h
  rw [hv] at hv'
  cases hv'
  obtain ⟨p2, e2, nI, c0⟩ := (repV_own (a := (f, d)) hf).mp q
  cases e2
  have hle : i < e.length := (List.getElem?_eq_some_iff.mp h).1
  have kI : ∀ q u, I q → H q = some u → (upd H p o) q = some u := fun q u iq z => by
    rw [upd_ne (fun y => nI (by rw [← y]; exact iq))]
    exact z
  refine ⟨fun j a z => ?_, fun j k p' a b z1 z2 o1 o2 w1 w2 => ?_, fun q u z n => ?_, fun q u z => ?_, r.inc, r.bnd, fun q z => ?_, fun j a p' z ow w1 => ?_, fun j p' z => ?_⟩
  · by_cases hj : i = j
    · subst hj
      rw [List.getElem?_set_self hle] at z
      cases z
      exact ⟨.ref p, hv, (repV_own (a := (f, d')) hf).mpr ⟨p, rfl, nI, c⟩⟩
    · rw [List.getElem?_set_ne hj] at z
      obtain ⟨v, hv', q'⟩ := r.rep j a z
      refine ⟨v, hv', q'.mono (fun _ z => z) kI fun p2 e2 ow => ⟨?_, fun u z2 => ?_⟩⟩
      · obtain ⟨p3, e3, n3, _⟩ := (repV_own ow).mp q'
        rw [e2] at e3
        cases e3
        exact n3
      · rw [upd_ne (fun y => ?_)]
        · exact z2
        · subst y
          rw [e2] at hv'
          exact hj (r.dis i j p2 _ _ h z hf ow hv hv')
  · have f1 : ∀ (j : Nat) (a : Val), (e.set i (some (f, d')))[j]? = some (some a) → ownF a.1 = true → ∃ b : Val, e[j]? = some (some b) ∧ ownF b.1 = true := fun j a z ow => by
      by_cases hj : i = j
      · subst hj
        exact ⟨_, h, hf⟩
      · rw [List.getElem?_set_ne hj] at z
        exact ⟨a, z, ow⟩
    obtain ⟨a', z1', o1'⟩ := f1 j a z1 o1
    obtain ⟨b', z2', o2'⟩ := f1 k b z2 o2
    exact r.dis j k p' a' b' z1' z2' o1' o2' w1 w2
  · rw [upd_ne (fun y => ?_)]
    · exact r.keep q u z n
    · subst y
      rcases r.wr i _ _ h hf hv with z2 | z2
      · exact n z2
      · rw [z] at z2
        cases z2
  · by_cases y : q = p
    · subst y
      exact ⟨_, upd_same⟩
    · rw [upd_ne y]
      exact r.dom q u z
  · rw [upd_ne (fun y => nI (by rw [← y]; exact z))]
    exact r.there q z
  · by_cases hj : i = j
    · subst hj
      exact r.wr i _ p' h hf w1
    · rw [List.getElem?_set_ne hj] at z
      exact r.wr j a p' z ow w1
  · obtain ⟨a, b, c', d''⟩ := r.pin j p' z
    by_cases hj : i = j
    · subst hj
      rw [h] at c'
      cases c'
      exact ⟨a, _, List.getElem?_set_self hle, d''⟩
    · rw [List.getElem?_set_ne hj]
      exact ⟨a, b, c', d''⟩
end
end Ev
set_option Elab.async false
set_option linter.all false
set_option autoImplicit false
set_option maxRecDepth 100000
set_option maxHeartbeats 1000000
namespace Ev
open PySem PySem.Spec PyProof.Rows L2
/-! ### a value that is looked at -/
def Peek (N : Nm) (I : Addr → Prop) (H : Hp) : D → V → Prop
  | .lst ds, v => ∃ p vs, v = .ref p ∧ H p = some (.lst vs) ∧ RepL N I H ds vs
  | .dic kvs, v => ∃ p, v = .ref p ∧ ((∃ hs, H p = some (.dK hs) ∧ RepKV N I H kvs hs) ∨ ∃ hs, H p = some (.dT hs) ∧ RepTV N I H kvs hs)
  | .obj c fs, v => (N.ok c ∧ ∀ q ∈ fs, N.has c q.1) ∧ ∃ p dx hs, v = .ref p ∧ H p = some (.ins (N.cls c) dx hs) ∧ RepF N I H fs hs
  | d, v => Rep N I H d v
section
variable {N : Nm} {I I' : Addr → Prop} {H H' : Hp}
theorem Rep.peek : ∀ {d : D} {v : V}, Rep N I H d v → Peek N I H d v
  | .non, _, h => h
  | .bl _, _, h => h
  | .int _, _, h => h
  | .str _, _, h => h
  | .tup _, _, h => h
  | .lst ds, _, ⟨p, vs, e, a, r⟩ => ⟨p, vs, e, a.2, r⟩
  | .frz ds, _, h => h
  | .dic kvs, _, ⟨p, e, _, h⟩ => ⟨p, e, h⟩
  | .dicw kvs, _, h => h
  | .obj c fs, _, ⟨o, p, dx, hs, e, _, a, r⟩ => ⟨o, p, dx, hs, e, a, r⟩
  | .exc c an fs, _, h => h
theorem OwnC.peek {p : Addr} : ∀ {d : D}, OwnC N I H p d → Peek N I H d (.ref p)
  | .lst ds, ⟨vs, e, r⟩ => ⟨p, vs, rfl, e, r⟩
  | .dic kvs, h => ⟨p, rfl, h⟩
  | .obj c fs, ⟨o, dx, hs, e, r⟩ => ⟨o, p, dx, hs, rfl, e, r⟩
theorem RepV.peek {a : Val} {v : V} (h : RepV N I H a v) : Peek N I H a.2 v := by
  cases q : ownF a.1 with
  | true =>
    obtain ⟨p, e, n, c⟩ := (repV_own q).mp h
    subst e
    exact c.peek
  | false => exact ((repV_imm q).mp h).peek
end
/-! ### what an operation leaves -/
inductive Step (N : Nm) (I : Addr → Prop) : Hp → Val → V → (Addr → Prop) → Hp → Prop
  | old {H : Hp} {d : D} {v : V} : Rep N I H d v → Step N I H (.imm, d) v I H
  | tup {H : Hp} {p : Addr} {vs : List V} {ds : List D} : H p = none → RepL N I H ds vs → Step N I H (.imm, .tup ds) (.ref p) (fun q => I q ∨ q = p) (upd H p (.tup vs))
  | own {H : Hp} {p : Addr} {o : HO} {d : D} : H p = none → OwnC N I (upd H p o) p d → Step N I H (.own, d) (.ref p) I (upd H p o)
  | exc {H : Hp} {p dx : Addr} {c : Nat} {an : List Nat} {fs : List (Nat × D)} {hs : List (Str × V)} : H p = none → H dx = none → p ≠ dx → N.xok c an → RepF N I H fs hs → Step N I H (.imm, .exc c an fs) (.ref p) (fun q => (I q ∨ q = dx) ∨ q = p) (upd (upd H dx (exd dx hs)) p (exo p (N.cls c) (some dx)))
  /-- something more is laid ahead of it -/
  | grow {H : Hp} {p : Addr} {o : HO} {a : Val} {v : V} {I' : Addr → Prop} {H' : Hp} : H p = none → Step N I (upd H p o) a v I' H' → Step N I H a v I' H'
section
variable {N : Nm} {Θ : Th} {I I' : Addr → Prop} {w : List (Option V)} {H H' : Hp} {e : Rho}
theorem upd_keep {p : Addr} {o : HO} (hn : H p = none) : ∀ q u, H q = some u → (upd H p o) q = some u := fun b u z => by rw [upd_ne (ne_of_none z hn)]; exact z
/-- something that nobody changes is laid -/
theorem R.grow1 {p : Addr} {o : HO} (r : R N Θ I w H e) (hn : H p = none) : R N Θ (fun q => I q ∨ q = p) w (upd H p o) e := by
  have k := upd_keep (o := o) hn
  have h0 : Θ.H0 p = none := by
    cases q : Θ.H0 p with
    | none => rfl
    | some u =>
      obtain ⟨u', q'⟩ := r.dom p u q
      rw [hn] at q'
      cases q'
  exact (r.grow k).more (p := p) ⟨_, upd_same⟩ (.inr (.inr h0)) fun i a q ow z => by
    obtain ⟨v, hv, rv⟩ := r.rep i a q
    rw [z] at hv
    cases hv
    obtain ⟨p2, e2, _, c⟩ := (repV_own ow).mp rv
    cases e2
    obtain ⟨u, hu⟩ := c.there
    rw [hn] at hu
    cases hu
theorem R.step {a : Val} {v : V} (s : Step N I H a v I' H') (r : R N Θ I w H e) (hl : w.length = e.length) : R N Θ I' (w ++ [some v]) H' (e ++ [some a]) := by
  induction s with
  | grow hn _ ih => exact ih (r.grow (upd_keep hn))
  | old h => exact r.push hl rfl h
  | @tup H p vs ds hn h =>
    have k := upd_keep (o := .tup vs) hn
    have h0 : Θ.H0 p = none := by
      cases q : Θ.H0 p with
      | none => rfl
      | some u =>
        obtain ⟨u', q'⟩ := r.dom p u q
        rw [hn] at q'
        cases q'
    have r1 := (r.grow k).more (p := p) ⟨_, upd_same⟩ (.inr (.inr h0)) fun i a q ow z => by
      obtain ⟨v, hv, rv⟩ := r.rep i a q
      rw [z] at hv
      cases hv
      obtain ⟨p2, e2, _, c⟩ := (repV_own ow).mp rv
      cases e2
      obtain ⟨u, hu⟩ := c.there
      rw [hn] at hu
      cases hu
    refine r1.push hl rfl ?_
    exact ⟨p, vs, rfl, .inl ⟨.inr rfl, .inl upd_same⟩, RepL.mono (fun _ z => .inl z) (fun q o _ z => k q o z) _ _ h⟩
  | own hn h => exact r.pushOwn hl hn h
  | @exc H p dx c an fs hs hn hd ne xo h =>
    have k1 := upd_keep (o := exd dx hs) hd
    have r1 := r.grow1 (o := exd dx hs) hd
    have hn' : (upd H dx (exd dx hs)) p = none := by rw [upd_ne ne]; exact hn
    have k2 := upd_keep (o := exo p (N.cls c) (some dx)) hn'
    have r2 := r1.grow1 (o := exo p (N.cls c) (some dx)) hn'
    refine r2.push hl rfl ?_
    exact ⟨xo, p, dx, hs, rfl, .inr rfl, .inl (.inr rfl), upd_same, by rw [upd_ne (Ne.symm ne)]; exact upd_same, RepF.mono (fun _ z => .inl (.inl z)) (fun q o _ z => k2 _ _ (k1 q o z)) _ _ h⟩
end
/-! ### data -/
mutual
def toP : D → PyData
  | .non => .none
  | .bl b => .bool b
  | .int i => .int i
  | .str s => .str s
  | .tup ds => .tuple (toPs ds)
  | .lst ds => .list (toPs ds)
  | .frz _ => .none
  | .dic _ => .none
  | .dicw _ => .none
  | .obj _ _ => .none
  | .exc _ _ _ => .none
def toPs : List D → List PyData
  | [] => []
  | d :: ds => toP d :: toPs ds
end
section
variable {N : Nm} {I : Addr → Prop} {H : Hp}
mutual
theorem dp_of : ∀ (n : Nat) (d : D) (v : V), lay n d = true → Rep N I H d v → Dp N.K H v (toP d)
  | n, .non, v, _, h => by rw [show v = .non from h]; exact .non
  | n, .bl b, v, _, h => by rw [show v = .bl b from h]; exact .bl b
  | n, .int b, v, _, h => by rw [show v = .int b from h]; exact .int b
  | n, .str b, v, _, h => by rw [show v = .str b from h]; exact .str b
  | 0, .tup ds, v, l, _ => by simp [lay] at l
  | 0, .lst ds, v, l, _ => by simp [lay] at l
  | n + 1, .tup ds, v, l, ⟨p, vs, e, a, r⟩ => by
    subst e
    exact .tup a.sq (dp_all n ds vs (by simpa [lay] using l) r)
  | n + 1, .lst ds, v, l, ⟨p, vs, e, a, r⟩ => by
    subst e
    exact .lst (.inl (.inl a.2)) (dp_all n ds vs (by simpa [lay] using l) r)
  | n, .frz _, v, l, _ => by cases n <;> simp [lay] at l
  | n, .dic _, v, l, _ => by cases n <;> simp [lay] at l
  | n, .dicw _, v, l, _ => by cases n <;> simp [lay] at l
  | n, .obj _ _, v, l, _ => by cases n <;> simp [lay] at l
  | n, .exc _ _ _, v, l, _ => by cases n <;> simp [lay] at l
theorem dp_all : ∀ (n : Nat) (ds : List D) (vs : List V), (∀ d ∈ ds, lay n d = true) → RepL N I H ds vs → DpAll N.K H vs (toPs ds)
  | n, [], vs, _, h => by rw [show vs = [] from h]; exact .nil
  | n, d :: ds, vs, l, ⟨v, r, e, a, b⟩ => by
    subst e
    exact .cons (dp_of n d v (l d (List.mem_cons_self ..)) a) (dp_all n ds r (fun x hx => l x (List.mem_cons_of_mem _ hx)) b)
end
theorem dp_peek {n : Nat} {d : D} {v : V} (l : lay n d = true) (h : Peek N I H d v) : Dp N.K H v (toP d) := by
  cases d with
  | lst ds =>
    obtain ⟨p, vs, e, a, r⟩ := h
    subst e
    cases n with
    | zero => simp [lay] at l
    | succ n => exact .lst (.inl (.inl a)) (dp_all n ds vs (by simpa [lay] using l) r)
  | dic kvs => cases n <;> simp [lay] at l
  | dicw kvs => cases n <;> simp [lay] at l
  | frz kvs => cases n <;> simp [lay] at l
  | obj c fs => cases n <;> simp [lay] at l
  | exc c an fs => cases n <;> simp [lay] at l
  | _ => exact dp_of (I := I) n _ v l h
mutual
theorem lay_can : ∀ (n : Nat) (d : D), lay n d = true → (toP d).canLay0 = true ∧ (toP d).depth ≤ n
  | n, .non, _ => ⟨rfl, Nat.zero_le _⟩
  | n, .bl b, _ => ⟨rfl, Nat.zero_le _⟩
  | n, .int b, _ => ⟨rfl, Nat.zero_le _⟩
  | n, .str b, h => ⟨by simpa [toP, PyData.canLay0, PyData.strOk, lay] using h, Nat.zero_le _⟩
  | 0, .tup ds, l => by simp [lay] at l
  | 0, .lst ds, l => by simp [lay] at l
  | n + 1, .tup ds, l => by
    obtain ⟨a, b⟩ := lay_cans n ds (by simpa [lay] using l)
    exact ⟨a, Nat.succ_le_succ b⟩
  | n + 1, .lst ds, l => by
    obtain ⟨a, b⟩ := lay_cans n ds (by simpa [lay] using l)
    exact ⟨a, Nat.succ_le_succ b⟩
  | n, .frz _, l => by cases n <;> simp [lay] at l
  | n, .dic _, l => by cases n <;> simp [lay] at l
  | n, .dicw _, l => by cases n <;> simp [lay] at l
  | n, .obj _ _, l => by cases n <;> simp [lay] at l
  | n, .exc _ _ _, l => by cases n <;> simp [lay] at l
theorem lay_cans : ∀ (n : Nat) (ds : List D), (∀ d ∈ ds, lay n d = true) → PyData.canLayAll0 (toPs ds) = true ∧ PyData.depthAll (toPs ds) ≤ n
  | n, [], _ => ⟨rfl, Nat.zero_le _⟩
  | n, d :: ds, l => by
    obtain ⟨a, b⟩ := lay_can n d (l d (List.mem_cons_self ..))
    obtain ⟨a', b'⟩ := lay_cans n ds (fun x hx => l x (List.mem_cons_of_mem _ hx))
    refine ⟨?_, ?_⟩
    · show ((toP d).canLay0 && PyData.canLayAll0 (toPs ds)) = true
      rw [a, a'] <;> rfl
    · show max (toP d).depth (PyData.depthAll (toPs ds)) ≤ n
      omega
end
theorem lay_shaped {d : D} (l : lay 60 d = true) : SeqAt.shaped (toP d) = true := by
  obtain ⟨a, b⟩ := lay_can 60 d l
  unfold SeqAt.shaped
  rw [a, decide_eq_true (show (toP d).depth ≤ 64 by omega)] <;> rfl
mutual
theorem eqv_of : ∀ (n : Nat) (d e : D), lay n d = true → lay n e = true → PyData.eqv (toP d) (toP e) = eqD d e
  | n, .non, e, _, _ => by cases e <;> simp_all [toP, PyData.eqv, eqD, lay] <;> (cases n <;> simp_all [lay])
  | n, .bl b, e, _, _ => by cases e <;> simp_all [toP, PyData.eqv, eqD, lay] <;> (cases n <;> simp_all [lay])
  | n, .int b, e, _, _ => by cases e <;> simp_all [toP, PyData.eqv, eqD, lay] <;> (cases n <;> simp_all [lay])
  | n, .str b, e, _, _ => by cases e <;> simp_all [toP, PyData.eqv, eqD, lay] <;> (cases n <;> simp_all [lay])
  | 0, .tup ds, e, l, _ => by simp [lay] at l
  | 0, .lst ds, e, l, _ => by simp [lay] at l
  | n + 1, .tup ds, e, l, k => by
    cases e with
    | tup es =>
      show PyData.eqvAll (toPs ds) (toPs es) = eqD.eqDs ds es
      exact eqv_all n ds es (by simpa [lay] using l) (by simpa [lay] using k)
    | _ => first | rfl | simp [lay] at k
  | n + 1, .lst ds, e, l, k => by
    cases e with
    | lst es =>
      show PyData.eqvAll (toPs ds) (toPs es) = eqD.eqDs ds es
      exact eqv_all n ds es (by simpa [lay] using l) (by simpa [lay] using k)
    | _ => first | rfl | simp [lay] at k
  | n, .frz _, e, l, _ => by cases n <;> simp [lay] at l
  | n, .dic _, e, l, _ => by cases n <;> simp [lay] at l
  | n, .dicw _, e, l, _ => by cases n <;> simp [lay] at l
  | n, .obj _ _, e, l, _ => by cases n <;> simp [lay] at l
  | n, .exc _ _ _, e, l, _ => by cases n <;> simp [lay] at l
theorem eqv_all : ∀ (n : Nat) (ds es : List D), (∀ d ∈ ds, lay n d = true) → (∀ d ∈ es, lay n d = true) → PyData.eqvAll (toPs ds) (toPs es) = eqD.eqDs ds es
  | n, [], [], _, _ => rfl
  | n, [], _ :: _, _, _ => rfl
  | n, _ :: _, [], _, _ => rfl
  | n, d :: ds, e :: es, l, k => by
    show (PyData.eqv (toP d) (toP e) && PyData.eqvAll (toPs ds) (toPs es)) = (eqD d e && eqD.eqDs ds es)
    rw [eqv_of n d e (l d (List.mem_cons_self ..)) (k e (List.mem_cons_self ..)), eqv_all n ds es (fun x hx => l x (List.mem_cons_of_mem _ hx)) (fun x hx => k x (List.mem_cons_of_mem _ hx))]
end
end
end Ev
set_option Elab.async false
set_option linter.all false
set_option autoImplicit false
set_option maxRecDepth 100000
set_option maxHeartbeats 1000000
namespace Ev
open PySem PySem.Spec PyProof.Rows L2
/-! ### operations by values: what the layer asks, from what opP says -/
abbrev Then (N : Nm) (I : Addr → Prop) (H : Hp) (P : Val → Prop) (Q : VK) : Prop := ∀ a v I' H', Step N I H a v I' H' → P a → Q v H'
section
variable {N : Nm} {I : Addr → Prop} {H : Hp} {P : Val → Prop} {Q : VK} {d1 d2 d3 : D} {v1 v2 v3 : V}
theorem Then.old (q : Then N I H P Q) {d : D} {v : V} (r : Rep N I H d v) (h : P (.imm, d)) : Q v H := q _ _ _ _ (.old r) h
theorem Then.int (q : Then N I H P Q) {i : Int} (h : P (.imm, .int i)) : Q (.int i) H := q.old (d := .int i) rfl h
theorem Then.bl (q : Then N I H P Q) {i : Bool} (h : P (.imm, .bl i)) : Q (.bl i) H := q.old (d := .bl i) rfl h
theorem Then.str (q : Then N I H P Q) {i : Str} (h : P (.imm, .str i)) : Q (.str i) H := q.old (d := .str i) rfl h
theorem Then.lst (q : Then N I H P Q) {p : Addr} {vs : List V} {ds : List D} (hp : H p = none) (r : RepL N I H ds vs) (h : P (.own, .lst ds)) : Q (.ref p) (upd H p (.lst vs)) :=
  q _ _ _ _ (.own (d := .lst ds) hp ⟨_, upd_same, RepL.mono (fun _ z => z) (fun b o _ z => upd_keep hp b o z) _ _ r⟩) h
theorem Then.tup (q : Then N I H P Q) {p : Addr} {vs : List V} {ds : List D} (hp : H p = none) (r : RepL N I H ds vs) (h : P (.imm, .tup ds)) : Q (.ref p) (upd H p (.tup vs)) :=
  q _ _ _ _ (.tup hp r) h
def rAddX (K : PySem.W.Frag) : R2 := fun x y H Q => rI0 (fun i j => .int (i + j)) x y H Q ∨ (∃ i j, x = .str i ∧ y = .str j ∧ i.length + j.length ≤ sizeLine ∧ Q (.str (i ++ j)) H) ∨ rCatA K x y H Q ∨ rCat x y H Q
theorem opr_add {X : Cx} : OpR X (binaryOp .Add) (rAddX X.K) := op_add.or (op_add_str.or (op_catA.or op_cat))
theorem ok_add (h : opP .add [d1, d2] P) (p1 : Peek N I H d1 v1) (p2 : Peek N I H d2 v2) (q : Then N I H P Q) : rAddX N.K v1 v2 H Q := by
  cases d1 with
  | int i => cases d2 with
    | int j => exact .inl ⟨i, j, p1, p2, q.int h⟩
    | _ => exact h.elim
  | str i => cases d2 with
    | str j => exact .inr (.inl ⟨i, j, p1, p2, by rw [sizeLine_eq]; exact h.1, q.str h.2⟩)
    | _ => exact h.elim
  | tup xs => cases d2 with
    | tup ys =>
      obtain ⟨a, us, rfl, ha, ra⟩ := p1
      obtain ⟨b, vs, rfl, hb, rb⟩ := p2
      have lx := ra.len
      have ly := rb.len
      refine .inr (.inr (.inl ⟨a, b, us, vs, rfl, rfl, ha.sq, hb.sq, by rw [sizeLine_eq, lx, ly]; exact h.1, fun z => ?_, fun z1 z2 => ?_, fun z1 z2 p hp => ?_⟩))
      · have e : xs = [] := List.eq_nil_of_length_eq_zero (by rw [← lx, z]; rfl)
        subst e
        exact q.old (d := .tup ys) ⟨b, vs, rfl, hb, rb⟩ h.2
      · have e : ys = [] := List.eq_nil_of_length_eq_zero (by rw [← ly, z2]; rfl)
        subst e
        have h2 := h.2
        rw [List.append_nil] at h2
        exact q.old (d := .tup xs) ⟨a, us, rfl, ha, ra⟩ h2
      · exact q.tup hp (ra.app rb) h.2
    | _ => exact h.elim
  | lst xs => cases d2 with
    | lst ys =>
      obtain ⟨a, us, rfl, ha, ra⟩ := p1
      obtain ⟨b, vs, rfl, hb, rb⟩ := p2
      have lx := ra.len
      have ly := rb.len
      refine .inr (.inr (.inr ⟨a, b, us, vs, rfl, rfl, ha, hb, by rw [sizeLine_eq, lx, ly]; exact h.1, fun p hp => ?_⟩))
      exact q.lst hp (ra.app rb) h.2
    | _ => exact h.elim
  | _ => cases d2 <;> exact h.elim
theorem ok_sub (h : opP .sub [d1, d2] P) (p1 : Peek N I H d1 v1) (p2 : Peek N I H d2 v2) (q : Then N I H P Q) : rI0 (fun i j => .int (i - j)) v1 v2 H Q := by
  cases d1 with
  | int i => cases d2 with
    | int j => exact ⟨i, j, p1, p2, q.int h⟩
    | _ => exact h.elim
  | _ => cases d2 <;> exact h.elim
def rMulX : R2 := rI MulOk fun i j => .int (i * j)
theorem opr_mul {X : Cx} : OpR X (binaryOp .Mult) rMulX := opI fun i j _ _ _ _ _ hc q => mul_int q (by
  rcases hc with h | h | h
  · exact CMulW.ok h
  · exact CMul.ok (.inl (by omega))
  · exact CMul.ok (.inr (by omega)))
theorem ok_mul (h : opP .mul [d1, d2] P) (p1 : Peek N I H d1 v1) (p2 : Peek N I H d2 v2) (q : Then N I H P Q) : rMulX v1 v2 H Q := by
  cases d1 with
  | int i => cases d2 with
    | int j => exact ⟨i, j, p1, p2, h.1, q.int h.2⟩
    | _ => exact h.elim
  | _ => cases d2 <;> exact h.elim
def rFdivX : R2 := rI (fun _ j => j ≠ 0 ∧ j.natAbs.log2 < 9000) fun i j => .int (i.fdiv j)
theorem opr_fdiv {X : Cx} : OpR X (binaryOp .FloorDiv) rFdivX := opI fun i j _ _ _ _ _ hc q => floordiv_int hc.1 q (.inl (PyProof.noPylong_of_log2 hc.2))
theorem ok_fdiv (h : opP .fdiv [d1, d2] P) (p1 : Peek N I H d1 v1) (p2 : Peek N I H d2 v2) (q : Then N I H P Q) : rFdivX v1 v2 H Q := by
  cases d1 with
  | int i => cases d2 with
    | int j => exact ⟨i, j, p1, p2, ⟨h.1, h.2.1⟩, q.int h.2.2⟩
    | _ => exact h.elim
  | _ => cases d2 <;> exact h.elim
theorem ok_mod (h : opP .mod [d1, d2] P) (p1 : Peek N I H d1 v1) (p2 : Peek N I H d2 v2) (q : Then N I H P Q) : rI (fun _ j => j ≠ 0) (fun i j => .int (i.fmod j)) v1 v2 H Q := by
  cases d1 with
  | int i => cases d2 with
    | int j => exact ⟨i, j, p1, p2, h.1, q.int h.2⟩
    | _ => exact h.elim
  | _ => cases d2 <;> exact h.elim
theorem ok_pow (h : opP .pow [d1, d2] P) (p1 : Peek N I H d1 v1) (p2 : Peek N I H d2 v2) (q : Then N I H P Q) : rI CPow (fun i j => .int (i ^ j.toNat)) v1 v2 H Q := by
  cases d1 with
  | int i => cases d2 with
    | int j => exact ⟨i, j, p1, p2, ⟨h.1, h.2.1, h.2.2.1⟩, q.int h.2.2.2⟩
    | _ => exact h.elim
  | _ => cases d2 <;> exact h.elim
theorem ok_neg (h : opP .neg [d1] P) (p1 : Peek N I H d1 v1) (q : Then N I H P Q) : rU (fun i => .int (-i)) v1 H Q := by
  cases d1 with
  | int i => exact ⟨i, p1, q.int h⟩
  | _ => exact h.elim
theorem ok_eq (h : opP .eq [d1, d2] P) (p1 : Peek N I H d1 v1) (p2 : Peek N I H d2 v2) (q : Then N I H P Q) : rEqD N.K v1 v2 H Q := by
  obtain ⟨l1, l2, h⟩ := h
  refine ⟨toP d1, toP d2, dp_peek l1 p1, dp_peek l2 p2, lay_shaped l1, lay_shaped l2, ?_⟩
  rw [eqv_of 60 d1 d2 l1 l2]
  exact q.bl h
theorem ok_ne (h : opP .ne [d1, d2] P) (p1 : Peek N I H d1 v1) (p2 : Peek N I H d2 v2) (q : Then N I H P Q) : rNeD N.K v1 v2 H Q := by
  obtain ⟨l1, l2, h⟩ := h
  refine ⟨toP d1, toP d2, dp_peek l1 p1, dp_peek l2 p2, lay_shaped l1, lay_shaped l2, ?_⟩
  rw [eqv_of 60 d1 d2 l1 l2]
  exact q.bl h
theorem ok_cmp {f : Op} {g : Int → Int → Bool} (hf : ∀ x y P, opP f [x, y] P → ∃ i j, x = .int i ∧ y = .int j ∧ P (.imm, .bl (g i j))) (h : opP f [d1, d2] P) (p1 : Peek N I H d1 v1) (p2 : Peek N I H d2 v2) (q : Then N I H P Q) : rI0 (fun i j => .bl (g i j)) v1 v2 H Q := by
  obtain ⟨i, j, e1, e2, h'⟩ := hf _ _ _ h
  subst e1 e2
  exact ⟨i, j, p1, p2, q.bl h'⟩
theorem inv_lt : ∀ x y (P : Val → Prop), opP .lt [x, y] P → ∃ i j, x = .int i ∧ y = .int j ∧ P (.imm, .bl (decide (i < j))) := by
  intro x y P h
  cases x with
  | int i => cases y with
    | int j => exact ⟨i, j, rfl, rfl, h⟩
    | _ => exact h.elim
  | _ => cases y <;> exact h.elim
theorem inv_le : ∀ x y (P : Val → Prop), opP .le [x, y] P → ∃ i j, x = .int i ∧ y = .int j ∧ P (.imm, .bl (decide (i ≤ j))) := by
  intro x y P h
  cases x with
  | int i => cases y with
    | int j => exact ⟨i, j, rfl, rfl, h⟩
    | _ => exact h.elim
  | _ => cases y <;> exact h.elim
theorem inv_gt : ∀ x y (P : Val → Prop), opP .gt [x, y] P → ∃ i j, x = .int i ∧ y = .int j ∧ P (.imm, .bl (decide (j < i))) := by
  intro x y P h
  cases x with
  | int i => cases y with
    | int j => exact ⟨i, j, rfl, rfl, h⟩
    | _ => exact h.elim
  | _ => cases y <;> exact h.elim
theorem inv_ge : ∀ x y (P : Val → Prop), opP .ge [x, y] P → ∃ i j, x = .int i ∧ y = .int j ∧ P (.imm, .bl (decide (j ≤ i))) := by
  intro x y P h
  cases x with
  | int i => cases y with
    | int j => exact ⟨i, j, rfl, rfl, h⟩
    | _ => exact h.elim
  | _ => cases y <;> exact h.elim
theorem ok_isN (h : opP .isN [d1] P) (p1 : Peek N I H d1 v1) (q : Then N I H P Q) : Q (.bl (decide (v1 = .non))) H := by
  have ne : ∀ {p : Addr}, decide (V.ref p = .non) = false := fun {p} => decide_eq_false fun z => by cases z
  cases d1 with
  | non =>
    rw [show v1 = .non from p1, decide_eq_true rfl]
    exact q.bl h
  | bl b => rw [show v1 = .bl b from p1, decide_eq_false fun z => by cases z]; exact q.bl h
  | int b => rw [show v1 = .int b from p1, decide_eq_false fun z => by cases z]; exact q.bl h
  | str b => rw [show v1 = .str b from p1, decide_eq_false fun z => by cases z]; exact q.bl h
  | tup xs => obtain ⟨a, us, rfl, _⟩ := p1; rw [ne]; exact q.bl h
  | lst xs => obtain ⟨a, us, rfl, _⟩ := p1; rw [ne]; exact q.bl h
  | frz xs => obtain ⟨a, us, rfl, _⟩ := p1; rw [ne]; exact q.bl h
  | dic xs => obtain ⟨a, rfl, _⟩ := p1; rw [ne]; exact q.bl h
  | dicw xs => obtain ⟨a, rfl, _⟩ := p1; rw [ne]; exact q.bl h
  | obj c xs => obtain ⟨_, a, _, _, rfl, _⟩ := p1; rw [ne]; exact q.bl h
  | exc c an xs => obtain ⟨_, a, _, _, rfl, _⟩ := p1; rw [ne]; exact q.bl h
theorem ok_notN (h : opP .notN [d1] P) (p1 : Peek N I H d1 v1) (q : Then N I H P Q) : Q (.bl (!decide (v1 = .non))) H := by
  have ne : ∀ {p : Addr}, decide (V.ref p = .non) = false := fun {p} => decide_eq_false fun z => by cases z
  cases d1 with
  | non =>
    rw [show v1 = .non from p1, decide_eq_true rfl]
    exact q.bl h
  | bl b => rw [show v1 = .bl b from p1, decide_eq_false fun z => by cases z]; exact q.bl h
  | int b => rw [show v1 = .int b from p1, decide_eq_false fun z => by cases z]; exact q.bl h
  | str b => rw [show v1 = .str b from p1, decide_eq_false fun z => by cases z]; exact q.bl h
  | tup xs => obtain ⟨a, us, rfl, _⟩ := p1; rw [ne]; exact q.bl h
  | lst xs => obtain ⟨a, us, rfl, _⟩ := p1; rw [ne]; exact q.bl h
  | frz xs => obtain ⟨a, us, rfl, _⟩ := p1; rw [ne]; exact q.bl h
  | dic xs => obtain ⟨a, rfl, _⟩ := p1; rw [ne]; exact q.bl h
  | dicw xs => obtain ⟨a, rfl, _⟩ := p1; rw [ne]; exact q.bl h
  | obj c xs => obtain ⟨_, a, _, _, rfl, _⟩ := p1; rw [ne]; exact q.bl h
  | exc c an xs => obtain ⟨_, a, _, _, rfl, _⟩ := p1; rw [ne]; exact q.bl h
theorem any_toP : ∀ (xs : List D) (x : D), (∀ d ∈ xs, lay 59 d = true) → lay 60 x = true → (∀ d ∈ xs, lay 60 d = true) → ((toPs xs).any fun z => PyData.eqv z (toP x)) = xs.any fun y => eqD y x
  | [], _, _, _, _ => rfl
  | y :: ys, x, l, k, l2 => by
    show (PyData.eqv (toP y) (toP x) || (toPs ys).any _) = (eqD y x || ys.any _)
    rw [eqv_of 60 y x (l2 y (List.mem_cons_self ..)) k, any_toP ys x (fun d hd => l d (List.mem_cons_of_mem _ hd)) k (fun d hd => l2 d (List.mem_cons_of_mem _ hd))]
mutual
theorem lay_up : ∀ (n : Nat) (d : D), lay n d = true → lay (n + 1) d = true
  | n, .non, _ => rfl
  | n, .bl b, _ => rfl
  | n, .int b, _ => rfl
  | n, .str b, h => by simpa [lay] using h
  | 0, .tup ds, l => by simp [lay] at l
  | 0, .lst ds, l => by simp [lay] at l
  | n + 1, .tup ds, l => by
    have l2 : ∀ d ∈ ds, lay n d = true := by simpa [lay] using l
    have l3 := lay_ups n ds l2
    simpa [lay] using l3
  | n + 1, .lst ds, l => by
    have l2 : ∀ d ∈ ds, lay n d = true := by simpa [lay] using l
    have l3 := lay_ups n ds l2
    simpa [lay] using l3
  | n, .frz _, l => by cases n <;> simp [lay] at l
  | n, .dic _, l => by cases n <;> simp [lay] at l
  | n, .dicw _, l => by cases n <;> simp [lay] at l
  | n, .obj _ _, l => by cases n <;> simp [lay] at l
  | n, .exc _ _ _, l => by cases n <;> simp [lay] at l
theorem lay_ups : ∀ (n : Nat) (ds : List D), (∀ d ∈ ds, lay n d = true) → ∀ d ∈ ds, lay (n + 1) d = true
  | n, [], _, _, h => by simp at h
  | n, x :: ds, l, d, h => by
    rcases List.mem_cons.mp h with e | h
    · rw [e]
      exact lay_up n x (l x (List.mem_cons_self ..))
    · exact lay_ups n ds (fun y hy => l y (List.mem_cons_of_mem _ hy)) d h
end
/-- x in a list or a tuple of data -/
def rInX (K : PySem.W.Frag) : R2 := fun x y H Q => rInD K x y H Q ∨ ∃ d ds, Dp K H x d ∧ Dp K H y (.tuple ds) ∧ SeqAt.shaped d = true ∧ SeqAt.shaped (.tuple ds) = true ∧ Q (.bl (ds.any fun z => PyData.eqv z d)) H
def rNotInX (K : PySem.W.Frag) : R2 := fun x y H Q => rNotInD K x y H Q ∨ ∃ d ds, Dp K H x d ∧ Dp K H y (.tuple ds) ∧ SeqAt.shaped d = true ∧ SeqAt.shaped (.tuple ds) = true ∧ Q (.bl (!ds.any fun z => PyData.eqv z d)) H
theorem canT {ds : List PyData} (h : SeqAt.shaped (.tuple ds) = true) : PyData.canLayAll0 ds = true := by
  unfold SeqAt.shaped at h
  rw [Bool.and_eq_true] at h
  exact h.1
theorem opr_in {X : Cx} (hu : X.A.units + 65 < cLine) : OpR X (compareOp .In) (rInX X.K) := by
  refine OpR.or (op_inD hu) ?_
  intro pins s σ H x y v u Q I rx ry ⟨d, ds, hd, he, sd, se, q⟩
  obtain ⟨as, r1⟩ := Dp.reads I d x v hd rx
  obtain ⟨bs, r2⟩ := Dp.reads I (.tuple ds) y u he ry
  exact SeqAt.in_tuple_reads r2 r1 (canT se) (SeqAt.canLay_of_shaped sd) (room_in_shaped sd hu) ⟨.bl _, H, I, rfl, q⟩
theorem opr_notin {X : Cx} (hu : X.A.units + 65 < cLine) : OpR X (compareOp .NotIn) (rNotInX X.K) := by
  refine OpR.or (op_notInD hu) ?_
  intro pins s σ H x y v u Q I rx ry ⟨d, ds, hd, he, sd, se, q⟩
  obtain ⟨as, r1⟩ := Dp.reads I d x v hd rx
  obtain ⟨bs, r2⟩ := Dp.reads I (.tuple ds) y u he ry
  exact SeqAt.notIn_tuple_reads r2 r1 (canT se) (SeqAt.canLay_of_shaped sd) (room_in_shaped sd hu) ⟨.bl _, H, I, rfl, q⟩
theorem ok_in (h : opP .in_ [d1, d2] P) (p1 : Peek N I H d1 v1) (p2 : Peek N I H d2 v2) (q : Then N I H P Q) : rInX N.K v1 v2 H Q := by
  cases d2 with
  | lst xs =>
    obtain ⟨l1, l2, h⟩ : lay 60 d1 = true ∧ lay 60 (.lst xs) = true ∧ P (.imm, .bl (xs.any fun y => eqD y d1)) := by cases d1 <;> exact h
    have l3 : ∀ d ∈ xs, lay 59 d = true := by simpa [lay] using l2
    refine .inl ⟨toP d1, toPs xs, dp_peek l1 p1, dp_peek l2 p2, lay_shaped l1, lay_shaped l2, ?_⟩
    rw [any_toP xs d1 l3 l1 (lay_ups 59 xs l3)]
    exact q.bl h
  | tup xs =>
    obtain ⟨l1, l2, h⟩ : lay 60 d1 = true ∧ lay 60 (.tup xs) = true ∧ P (.imm, .bl (xs.any fun y => eqD y d1)) := by cases d1 <;> exact h
    have l3 : ∀ d ∈ xs, lay 59 d = true := by simpa [lay] using l2
    refine .inr ⟨toP d1, toPs xs, dp_peek l1 p1, dp_peek l2 p2, lay_shaped l1, lay_shaped l2, ?_⟩
    rw [any_toP xs d1 l3 l1 (lay_ups 59 xs l3)]
    exact q.bl h
  | _ => cases d1 <;> exact h.elim
theorem ok_notin (h : opP .notin [d1, d2] P) (p1 : Peek N I H d1 v1) (p2 : Peek N I H d2 v2) (q : Then N I H P Q) : rNotInX N.K v1 v2 H Q := by
  cases d2 with
  | lst xs =>
    obtain ⟨l1, l2, h⟩ : lay 60 d1 = true ∧ lay 60 (.lst xs) = true ∧ P (.imm, .bl (!xs.any fun y => eqD y d1)) := by cases d1 <;> exact h
    have l3 : ∀ d ∈ xs, lay 59 d = true := by simpa [lay] using l2
    refine .inl ⟨toP d1, toPs xs, dp_peek l1 p1, dp_peek l2 p2, lay_shaped l1, lay_shaped l2, ?_⟩
    rw [any_toP xs d1 l3 l1 (lay_ups 59 xs l3)]
    exact q.bl h
  | tup xs =>
    obtain ⟨l1, l2, h⟩ : lay 60 d1 = true ∧ lay 60 (.tup xs) = true ∧ P (.imm, .bl (!xs.any fun y => eqD y d1)) := by cases d1 <;> exact h
    have l3 : ∀ d ∈ xs, lay 59 d = true := by simpa [lay] using l2
    refine .inr ⟨toP d1, toPs xs, dp_peek l1 p1, dp_peek l2 p2, lay_shaped l1, lay_shaped l2, ?_⟩
    rw [any_toP xs d1 l3 l1 (lay_ups 59 xs l3)]
    exact q.bl h
  | _ => cases d1 <;> exact h.elim
theorem at_ixN (n : Nat) (i : Int) : Ev.ixN n i = L2.ixN n i := rfl
theorem atI_rep {ds : List D} {vs : List V} (r : RepL N I H ds vs) {i : Int} {d : D} (h : atI ds i = some d) : ∃ v, L2.atI vs i = some v ∧ Rep N I H d v := by
  unfold atI at h
  cases e : Ev.ixN ds.length i with
  | none => rw [e] at h; cases h
  | some j =>
    rw [e] at h
    obtain ⟨v, h1, h2⟩ := r.get (show ds[j]? = some d from h)
    refine ⟨v, ?_, h2⟩
    unfold L2.atI
    rw [r.len, ← at_ixN, e]
    exact h1
/-- xs[i], d[k] of a written dict -/
def rIxX (N : Nm) : R2 := fun x y H Q => rIx N.K x y H Q ∨ rIxD N.K N.w x y H Q
theorem ok_idx (h : opP .idx [d1, d2] P) (p1 : Peek N I H d1 v1) (p2 : Peek N I H d2 v2) (q : Then N I H P Q) : rIxX N v1 v2 H Q := by
  cases d1 with
  | lst xs => cases d2 with
    | int i =>
      obtain ⟨d, hd, h⟩ := h
      obtain ⟨a, us, rfl, ha, ra⟩ := p1
      obtain ⟨v, hv, rv⟩ := atI_rep ra hd
      exact .inl (.inl ⟨a, us, i, v, rfl, p2, .inl (.inl ha), hv, q.old rv h⟩)
    | _ => exact h.elim
  | frz xs => cases d2 with
    | int i =>
      obtain ⟨d, hd, h⟩ := h
      obtain ⟨a, us, rfl, ha, ra⟩ := p1
      obtain ⟨v, hv, rv⟩ := atI_rep ra hd
      exact .inl (.inl ⟨a, us, i, v, rfl, p2, ha.sq, hv, q.old rv h⟩)
    | _ => exact h.elim
  | tup xs => cases d2 with
    | int i =>
      obtain ⟨d, hd, h⟩ := h
      obtain ⟨a, us, rfl, ha, ra⟩ := p1
      obtain ⟨v, hv, rv⟩ := atI_rep ra hd
      exact .inl (.inr (.inl ⟨a, us, i, v, rfl, p2, ha.sq, hv, q.old rv h⟩))
    | _ => exact h.elim
  | str z => cases d2 with
    | int i =>
      obtain ⟨hz, c, hc, h⟩ := h
      exact .inl (.inr (.inr ⟨z, i, c, p1, p2, by rw [sizeLine_eq]; exact hz, hc, q.str h⟩))
    | _ => exact h.elim
  | dicw kvs => cases d2 with
    | str z =>
      obtain ⟨d, hd, h⟩ := h
      obtain ⟨a, rfl, hp⟩ := p1
      obtain ⟨i, rfl, hk⟩ := hp.2 z d hd
      exact .inr ⟨a, z, .int i, rfl, p2, hk, q.int h⟩
    | _ => exact h.elim
  | _ => cases d2 <;> exact h.elim
theorem sIx_eq (n d : Nat) (o : Option Int) : Ev.sIx n d o = HT.sIx n d o := by cases o <;> rfl
theorem cut_rep {ds : List D} {vs : List V} (r : RepL N I H ds vs) (lo hi : Option Int) : RepL N I H (cut ds lo hi) (cutV vs lo hi) := by
  unfold cut cutV
  rw [r.len, sIx_eq, sIx_eq]
  exact (r.drop _).take _
theorem cut_whole {α : Type} (xs : List α) (lo hi : Option Int) (h : HT.sIx xs.length 0 lo = 0 ∧ HT.sIx xs.length xs.length hi = xs.length) : cut xs lo hi = xs := by
  unfold cut
  rw [sIx_eq, sIx_eq, h.1, h.2]
  simp
def rSlX (K : PySem.W.Frag) : V → Option Int → Option Int → Hp → VK → Prop := fun x lo hi H Q => rSlL K x lo hi H Q ∨ rSlA K x lo hi H Q
theorem slr {X : Cx} : SlR X (rSlX X.K) := sl_list.or sl_tupA
/-- a slice, its parts known -/
theorem ok_slc {lo hi : Option Int} (h : (∃ xs, d1 = .lst xs ∧ P (.own, .lst (cut xs lo hi))) ∨ (∃ xs, d1 = .frz xs ∧ P (.own, .lst (cut xs lo hi))) ∨ (∃ xs, d1 = .tup xs ∧ P (.imm, .tup (cut xs lo hi))))
    (p1 : Peek N I H d1 v1) (q : Then N I H P Q) : rSlX N.K v1 lo hi H Q := by
  rcases h with ⟨xs, rfl, h⟩ | ⟨xs, rfl, h⟩ | ⟨xs, rfl, h⟩
  · obtain ⟨a, us, rfl, ha, ra⟩ := p1
    exact .inl ⟨a, us, rfl, .inl (.inl ha), fun p hp => q.lst hp (cut_rep ra lo hi) h⟩
  · obtain ⟨a, us, rfl, ha, ra⟩ := p1
    exact .inl ⟨a, us, rfl, ha.sq, fun p hp => q.lst hp (cut_rep ra lo hi) h⟩
  · obtain ⟨a, us, rfl, ha, ra⟩ := p1
    refine .inr ⟨a, us, rfl, ha.sq, fun z => ?_, fun _ p hp => q.tup hp (cut_rep ra lo hi) h⟩
    have e := cut_whole xs lo hi (by rw [← ra.len]; exact z)
    rw [e] at h
    exact q.old (d := .tup xs) ⟨a, us, rfl, ha, ra⟩ h
theorem ok_len (h : opP .len [d1] P) (p1 : Peek N I H d1 v1) (q : Then N I H P Q) : ∃ n, LenV N.K v1 H n ∧ Q (.int n) H := by
  cases d1 with
  | lst xs =>
    obtain ⟨a, us, rfl, ha, ra⟩ := p1
    exact ⟨us.length, .inl ⟨us, .inl (.inl ha), rfl⟩, by rw [ra.len]; exact q.int h⟩
  | frz xs =>
    obtain ⟨a, us, rfl, ha, ra⟩ := p1
    exact ⟨us.length, .inl ⟨us, ha.sq, rfl⟩, by rw [ra.len]; exact q.int h⟩
  | tup xs =>
    obtain ⟨a, us, rfl, ha, ra⟩ := p1
    exact ⟨us.length, .inr ⟨us, ha.sq, rfl⟩, by rw [ra.len]; exact q.int h⟩
  | str z =>
    rw [show v1 = .str z from p1]
    exact ⟨z.length, ⟨by rw [sizeLine_eq]; exact h.1, rfl⟩, q.int h.2⟩
  | _ => exact h.elim
theorem ok_abs (h : opP .abs [d1] P) (p1 : Peek N I H d1 v1) (q : Then N I H P Q) : ∃ i, [v1] = [.int i] ∧ Q (.int (if i < 0 then -i else i)) H := by
  cases d1 with
  | int i =>
    refine ⟨i, by rw [show v1 = .int i from p1], ?_⟩
    have e : (if i < 0 then -i else i) = (i.natAbs : Int) := by split <;> omega
    rw [e]
    exact q.int h
  | _ => exact h.elim
theorem ok_toInt (h : opP .toInt [d1] P) (p1 : Peek N I H d1 v1) (q : Then N I H P Q) : (∃ i, [v1] = [.int i] ∧ Q (.int i) H) ∨ ∃ k : Bool, [v1] = [.bl k] ∧ Q (.int (if k then 1 else 0)) H := by
  cases d1 with
  | int i => exact .inl ⟨i, by rw [show v1 = .int i from p1], q.int h⟩
  | bl i => exact .inr ⟨i, by rw [show v1 = .bl i from p1], q.int h⟩
  | _ => exact h.elim
theorem ok_toList (h : opP .toList [d1] P) (p1 : Peek N I H d1 v1) (q : Then N I H P Q) : ∃ p ys, [v1] = [.ref p] ∧ (SqL N.K H p ys ∨ SqT N.K H p ys) ∧ ∀ l, H l = none → Q (.ref l) (upd H l (.lst ys)) := by
  cases d1 with
  | lst xs =>
    obtain ⟨a, us, rfl, ha, ra⟩ := p1
    exact ⟨a, us, rfl, .inl (.inl (.inl ha)), fun p hp => q.lst hp ra h⟩
  | frz xs =>
    obtain ⟨a, us, rfl, ha, ra⟩ := p1
    exact ⟨a, us, rfl, .inl ha.sq, fun p hp => q.lst hp ra h⟩
  | tup xs =>
    obtain ⟨a, us, rfl, ha, ra⟩ := p1
    exact ⟨a, us, rfl, .inr ha.sq, fun p hp => q.lst hp ra h⟩
  | _ => exact h.elim
theorem ok_toTuple (h : opP .toTuple [d1] P) (p1 : Peek N I H d1 v1) (q : Then N I H P Q) : ∃ p ys, [v1] = [.ref p] ∧ ((SqL N.K H p ys ∧ ∀ l, H l = none → Q (.ref l) (upd H l (.tup ys))) ∨ (SqT N.K H p ys ∧ Q (.ref p) H)) := by
  cases d1 with
  | lst xs =>
    obtain ⟨a, us, rfl, ha, ra⟩ := p1
    exact ⟨a, us, rfl, .inl ⟨.inl (.inl ha), fun p hp => q.tup hp ra h⟩⟩
  | tup xs =>
    obtain ⟨a, us, rfl, ha, ra⟩ := p1
    exact ⟨a, us, rfl, .inr ⟨ha.sq, q.old (d := .tup xs) ⟨a, us, rfl, ha, ra⟩ h⟩⟩
  | _ => exact h.elim
theorem bools_rep : ∀ {ds : List D} {bs : List Bool} {vs : List V}, bools? ds = some bs → RepL N I H ds vs → vs = bs.map V.bl
  | [], bs, vs, h, r => by
    have e : vs = [] := r
    have e2 : some [] = some bs := h
    cases e2
    exact e
  | d :: ds, bs, vs, h, ⟨v, r, e, a, b⟩ => by
    subst e
    cases d with
    | bl k =>
      have h' : (bools? ds).map (k :: ·) = some bs := h
      cases z : bools? ds with
      | none => rw [z] at h'; cases h'
      | some cs =>
        rw [z] at h'
        cases h'
        rw [show v = .bl k from a, bools_rep z b]
        rfl
    | _ => cases h
theorem ints_rep : ∀ {ds : List D} {bs : List Int} {vs : List V}, ints? ds = some bs → RepL N I H ds vs → vs = bs.map V.int
  | [], bs, vs, h, r => by
    have e : vs = [] := r
    have e2 : some [] = some bs := h
    cases e2
    exact e
  | d :: ds, bs, vs, h, ⟨v, r, e, a, b⟩ => by
    subst e
    cases d with
    | int k =>
      have h' : (ints? ds).map (k :: ·) = some bs := h
      cases z : ints? ds with
      | none => rw [z] at h'; cases h'
      | some cs =>
        rw [z] at h'
        cases h'
        rw [show v = .int k from a, ints_rep z b]
        rfl
    | _ => cases h
theorem ok_all (h : opP .all [d1] P) (p1 : Peek N I H d1 v1) (q : Then N I H P Q) : rAll N.K [v1] H Q := by
  cases d1 with
  | lst xs =>
    obtain ⟨a, us, rfl, ha, ra⟩ := p1
    obtain ⟨bs, hb, h⟩ := h
    rw [bools_rep hb ra] at ha
    exact ⟨a, bs, rfl, .inl (.inl ha), q.bl h⟩
  | _ => exact h.elim
theorem ok_any (h : opP .any [d1] P) (p1 : Peek N I H d1 v1) (q : Then N I H P Q) : rAny N.K [v1] H Q := by
  cases d1 with
  | lst xs =>
    obtain ⟨a, us, rfl, ha, ra⟩ := p1
    obtain ⟨bs, hb, h⟩ := h
    rw [bools_rep hb ra] at ha
    exact ⟨a, bs, rfl, .inl (.inl ha), q.bl h⟩
  | _ => exact h.elim
theorem ok_sum (h : opP .sum [d1] P) (p1 : Peek N I H d1 v1) (q : Then N I H P Q) : rSum N.K [v1] H Q := by
  cases d1 with
  | lst xs =>
    obtain ⟨a, us, rfl, ha, ra⟩ := p1
    obtain ⟨bs, hb, h⟩ := h
    rw [ints_rep hb ra] at ha
    exact ⟨a, bs, rfl, .inl (.inl ha), q.int h⟩
  | _ => exact h.elim
theorem ok_max2 (h : opP .max2 [d1, d2] P) (p1 : Peek N I H d1 v1) (p2 : Peek N I H d2 v2) (q : Then N I H P Q) : ∃ i j, [v1, v2] = [.int i, .int j] ∧ Q (.int (if j > i then j else i)) H := by
  cases d1 with
  | int i => cases d2 with
    | int j => exact ⟨i, j, by rw [show v1 = .int i from p1, show v2 = .int j from p2], q.int h⟩
    | _ => exact h.elim
  | _ => cases d2 <;> exact h.elim
theorem ok_min2 (h : opP .min2 [d1, d2] P) (p1 : Peek N I H d1 v1) (p2 : Peek N I H d2 v2) (q : Then N I H P Q) : ∃ i j, [v1, v2] = [.int i, .int j] ∧ Q (.int (if j < i then j else i)) H := by
  cases d1 with
  | int i => cases d2 with
    | int j => exact ⟨i, j, by rw [show v1 = .int i from p1, show v2 = .int j from p2], q.int h⟩
    | _ => exact h.elim
  | _ => cases d2 <;> exact h.elim
/-! ### texts -/
theorem fold_size (x : Array Nat) : ∀ (n : Nat) (acc : Array Nat), ((List.replicate n x).foldl (· ++ ·) acc).size = acc.size + n * x.size
  | 0, acc => by simp
  | n + 1, acc => by
    rw [List.replicate_succ, List.foldl_cons, fold_size x n, Array.size_append, Nat.succ_mul]
    omega
def rRepS : R2 := fun x y H Q => ∃ a n, x = .str a ∧ y = .int n ∧ 1 < n ∧ a.length ≠ 0 ∧ a.length * n.toNat ≤ sizeLine ∧ Q (.str (repT a n.toNat)) H
theorem opr_rep {X : Cx} : OpR X (binaryOp .Mult) rRepS := by
  intro pins s σ H x y v u Q I rx ry h
  obtain ⟨a, n, rfl, rfl, h1, h2, h3, q⟩ := h
  obtain ⟨t, rfl⟩ := rx
  obtain ⟨t', rfl⟩ := ry
  have hz := sizeLine_eq
  have ha : 1 ≤ a.length := by omega
  have hn : n.toNat ≤ sizeLine := Nat.le_trans (Nat.le_mul_of_pos_left _ ha) h3
  have hal : a.length ≤ sizeLine := Nat.le_trans (Nat.le_mul_of_pos_right _ (by omega)) h3
  refine PySem.P.mul_str ?_ (fun _ _ => ?_) (fun _ _ => ?_) ?_
  · rw [decide_eq_false (by omega), decide_eq_false (by omega)] <;> rfl
  · intro z
    have e : n = (n.toNat : Int) := by omega
    have h4 : (a.length : Int) * n ≤ 2 ^ 63 - 1 := by
      rw [e]
      have : ((a.length * n.toNat : Nat) : Int) ≤ 2 ^ 63 - 1 := by omega
      simpa using this
    have h5 : (a.length : Int) ≤ (2 ^ 63 - 1) / n := (Int.le_ediv_iff_mul_le (by omega)).mpr h4
    omega
  · unfold Builtin.Str.tooLong
    exact decide_eq_false (by omega)
  · rw [if_neg (by omega), if_neg (by
      rw [Bool.or_eq_true, not_or]
      refine ⟨by simp; omega, by simp; omega⟩)]
    refine ⟨?_, ⟨.str (repT a n.toNat), H, I.tok _, ⟨_, rfl⟩, q⟩⟩
    show (repT a n.toNat).cps.size ≤ sizeLine
    unfold repT
    rw [fold_size]
    have e : a.length = a.cps.size := rfl
    rw [e, Nat.mul_comm] at h3
    simpa using h3
theorem ok_rep (h : opP .rep [d1, d2] P) (p1 : Peek N I H d1 v1) (p2 : Peek N I H d2 v2) (q : Then N I H P Q) : rRepS v1 v2 H Q := by
  cases d1 with
  | str a =>
    cases d2 with
    | int n =>
      obtain ⟨h1, h2, h3, p⟩ := h
      exact ⟨a, n, p1, p2, h1, h2, by have := sizeLine_eq; simp only [line] at h3; omega, q.str p⟩
    | _ => exact h.elim
  | _ => exact h.elim
theorem ok_inS (h : opP .inS [d1, d2] P) (p1 : Peek N I H d1 v1) (p2 : Peek N I H d2 v2) (q : Then N I H P Q) : ∃ (c : Nat) (z : Str), v1 = .str ⟨#[c]⟩ ∧ v2 = .str z ∧ Q (.bl (decide (c ∈ z.cps.toList))) H := by
  cases d1 with
  | str a =>
    cases d2 with
    | str z =>
      obtain ⟨c, e, p⟩ := h
      subst e
      exact ⟨c, z, p1, p2, q.bl p⟩
    | _ => exact h.elim
  | _ => exact h.elim
theorem ok_toIntS (h : opP .toIntS [d1] P) (p1 : Peek N I H d1 v1) (q : Then N I H P Q) : ∃ a n, [v1] = [.str a] ∧ PySem.intText? a = some n ∧ a.length ≤ 640 ∧ Q (.int n) H := by
  cases d1 with
  | str a =>
    obtain ⟨n, e, l, p⟩ := h
    exact ⟨a, n, by rw [show v1 = .str a from p1], e, l, q.int p⟩
  | _ => exact h.elim
theorem ok_toStr (h : opP .toStr [d1] P) (p1 : Peek N I H d1 v1) (q : Then N I H P Q) : ∃ i, [v1] = [.int i] ∧ i.natAbs.log2 < 1920 ∧ Q (.str (toString i)) H := by
  cases d1 with
  | int i => exact ⟨i, by rw [show v1 = .int i from p1], h.1, q.str h.2⟩
  | _ => exact h.elim
theorem ok_gcd (h : opP .gcd [d1, d2] P) (p1 : Peek N I H d1 v1) (p2 : Peek N I H d2 v2) (q : Then N I H P Q) : ∃ a b : Int, [v1, v2] = [.int a, .int b] ∧ Q (.int ((Nat.gcd a.natAbs b.natAbs : Nat) : Int)) H := by
  cases d1 with
  | int i =>
    cases d2 with
    | int j => exact ⟨i, j, by rw [show v1 = .int i from p1, show v2 = .int j from p2], q.int h⟩
    | _ => exact h.elim
  | _ => exact h.elim
theorem cutT_eq (z : Str) (lo hi : Option Int) : cutT z lo hi = L2.cutS z lo hi := by
  unfold cutT L2.cutS cut
  rw [sIx_eq, sIx_eq]
  have e : z.cps.toList.length = z.length := by simp [Str.length]
  rw [e]
end
end Ev
set_option Elab.async false
set_option linter.all false
set_option autoImplicit false
set_option maxRecDepth 100000
set_option maxHeartbeats 1000000
namespace Ev
open PySem PySem.Spec PyProof.Rows L2
/-! ### the state of a frame, with what is at hand -/
structure S0 (N : Nm) (Θ : Th) (I : Addr → Prop) (σ : L2.St) (τ : List V) (H : Hp) (ρ : Rho) (δ : List Val) : Prop where
  r : R N Θ I (σ ++ τ.map some) H (ρ ++ δ.map some)
  l1 : σ.length = ρ.length
  l2 : τ.length = δ.length
  lp : Θ.ps.length ≤ ρ.length
section
variable {N : Nm} {Θ : Th} {I I' : Addr → Prop} {σ : L2.St} {τ : List V} {H H' : Hp} {ρ : Rho} {δ : List Val}
theorem S0.ll (s : S0 N Θ I σ τ H ρ δ) : (σ ++ τ.map some).length = (ρ ++ δ.map some).length := by simp [s.l1, s.l2]
theorem snoc_map {α : Type} (l : List α) (x : α) : (l ++ [x]).map some = l.map some ++ [some x] := by simp
theorem S0.step (s : S0 N Θ I σ τ H ρ δ) {a : Val} {v : V} (st : Step N I H a v I' H') : S0 N Θ I' σ (τ ++ [v]) H' ρ (δ ++ [a]) := by
  refine ⟨?_, s.l1, by simp [s.l2], s.lp⟩
  have r := R.step st s.r s.ll
  rw [snoc_map, snoc_map, ← List.append_assoc, ← List.append_assoc]
  exact r
theorem S0.pop {v : V} {a : Val} (s : S0 N Θ I σ (τ ++ [v]) H ρ (δ ++ [a])) : S0 N Θ I σ τ H ρ δ := by
  have l2 : τ.length = δ.length := by have := s.l2; simpa using this
  refine ⟨?_, s.l1, l2, s.lp⟩
  have r := s.r
  rw [snoc_map, snoc_map, ← List.append_assoc, ← List.append_assoc] at r
  exact r.pop (by simp [s.l1, l2]) (by have := s.lp; simp; omega)
theorem R.pre {N : Nm} {Θ : Th} {I : Addr → Prop} {w m : List (Option V)} {H : Hp} {e m' : Rho} (r : R N Θ I (w ++ m) H (e ++ m')) (hl : w.length = e.length) (hps : Θ.ps.length ≤ e.length) : R N Θ I w H e where
  rep := fun i a h => by
    have l1 := (List.getElem?_eq_some_iff.mp h).1
    obtain ⟨v, hv, q⟩ := r.rep i a (get_app h)
    rw [app_get (by omega)] at hv
    exact ⟨v, hv, q⟩
  dis := fun i j p a b q1 q2 o1 o2 w1 w2 => r.dis i j p a b (get_app q1) (get_app q2) o1 o2 (get_app w1) (get_app w2)
  keep := r.keep
  dom := r.dom
  inc := r.inc
  bnd := r.bnd
  there := r.there
  wr := fun i a p q o w1 => r.wr i a p (get_app q) o (get_app w1)
  pin := fun i p h => by
    have l1 := (List.getElem?_eq_some_iff.mp h).1
    obtain ⟨a, b, c, d⟩ := r.pin i p h
    rw [app_get (by omega)] at a c
    exact ⟨a, b, c, d⟩
theorem S0.popN {τ' : List V} {δ' : List Val} (s : S0 N Θ I σ (τ ++ τ') H ρ (δ ++ δ')) (l2 : τ.length = δ.length) : S0 N Θ I σ τ H ρ δ := by
  refine ⟨?_, s.l1, l2, s.lp⟩
  have r := s.r
  rw [List.map_append, List.map_append, ← List.append_assoc, ← List.append_assoc] at r
  exact R.pre r (by simp [s.l1, l2]) (by have := s.lp; simp; omega)
/-- what a name holds -/
theorem S0.slot (s : S0 N Θ I σ τ H ρ δ) {i : Nat} {a : Val} (h : ρ.at i = some a) : ∃ v, σ[i]? = some (some v) ∧ RepV N I H a v := by
  have e := at_get.mp h
  obtain ⟨v, hv, q⟩ := s.r.rep i a (get_app e)
  have l := (List.getElem?_eq_some_iff.mp e).1
  rw [app_get (by rw [s.l1]; exact l)] at hv
  exact ⟨v, hv, q⟩
/-- what is at hand -/
theorem S0.hand (s : S0 N Θ I σ τ H ρ δ) {k : Nat} {a : Val} (h : δ[k]? = some a) : ∃ v, τ[k]? = some v ∧ RepV N I H a v := by
  have l := (List.getElem?_eq_some_iff.mp h).1
  have e : (ρ ++ δ.map some)[ρ.length + k]? = some (some a) := by
    rw [List.getElem?_append_right (by omega), Nat.add_sub_cancel_left, List.getElem?_map, h]
    rfl
  obtain ⟨v, hv, q⟩ := s.r.rep _ a e
  rw [List.getElem?_append_right (by rw [s.l1]; omega), s.l1, Nat.add_sub_cancel_left, List.getElem?_map] at hv
  cases z : τ[k]? with
  | none => rw [z] at hv; cases hv
  | some u => rw [z] at hv; cases hv; exact ⟨_, rfl, q⟩
theorem put_app (ρ : Rho) (r : Rho) (i : Nat) (a : Option Val) (h : i < ρ.length) : (ρ ++ r).set i a = ρ.put i a ++ r := by
  rw [put_set]
  exact List.set_append_left i a h
/-- a name's list is handed on -/
theorem S0.leak (s : S0 N Θ I σ τ H ρ δ) {i : Nat} {a : Val} (h : ρ.at i = some a) : ∃ I' : Addr → Prop, (∀ p, I p → I' p) ∧ S0 N Θ I' σ τ H (ρ.leak i) δ ∧ ∃ v, σ[i]? = some (some v) ∧ Rep N I' H a.2 v := by
  obtain ⟨f, d⟩ := a
  have l := at_lt h
  cases q : ownF f with
  | false =>
    obtain ⟨v, hv, rv⟩ := s.slot h
    have e : ρ.leak i = ρ := by
      unfold Rho.leak
      rw [h]
      cases f <;> first | rfl | cases q
    rw [e]
    exact ⟨I, fun _ z => z, s, v, hv, (repV_imm (a := (f, d)) q).mp rv⟩
  | true =>
    obtain ⟨I', up, r, v, hv, rv⟩ := s.r.leak (get_app (at_get.mp h)) q
    have e : (ρ ++ δ.map some).set i (some (leakF f, d)) = ρ.leak i ++ δ.map some := by
      rw [put_app _ _ _ _ l]
      unfold Rho.leak
      rw [h]
      cases f <;> first | rfl | cases q
    rw [e] at r
    rw [app_get (by rw [s.l1]; exact l)] at hv
    exact ⟨I', up, ⟨r, by rw [leak_len]; exact s.l1, s.l2, by rw [leak_len]; exact s.lp⟩, v, hv, rv⟩
/-- the last thing at hand is handed on -/
theorem S0.leakT {v : V} {a : Val} (s : S0 N Θ I σ (τ ++ [v]) H ρ (δ ++ [a])) : ∃ I' : Addr → Prop, (∀ p, I p → I' p) ∧ S0 N Θ I' σ (τ ++ [v]) H ρ (δ ++ [(leakF a.1, a.2)]) ∧ Rep N I' H a.2 v := by
  obtain ⟨f, d⟩ := a
  have l2 : τ.length = δ.length := by have := s.l2; simpa using this
  have e : (ρ ++ (δ ++ [(f, d)]).map some)[ρ.length + δ.length]? = some (some (f, d)) := by
    rw [List.getElem?_append_right (by omega), Nat.add_sub_cancel_left, List.getElem?_map]
    simp
  have ev : (σ ++ (τ ++ [v]).map some)[ρ.length + δ.length]? = some (some v) := by
    rw [← s.l1, ← l2, List.getElem?_append_right (by omega), Nat.add_sub_cancel_left, List.getElem?_map]
    simp
  cases q : ownF f with
  | false =>
    obtain ⟨u, hu, rv⟩ := s.r.rep _ _ e
    rw [ev] at hu
    cases hu
    have ef : leakF f = f := by cases f <;> first | rfl | cases q
    refine ⟨I, fun _ z => z, ?_, (repV_imm (a := (f, d)) q).mp rv⟩
    show S0 N Θ I σ (τ ++ [v]) H ρ (δ ++ [(leakF f, d)])
    rw [ef]
    exact s
  | true =>
    obtain ⟨I', up, r, u, hu, rv⟩ := s.r.leak e q
    rw [ev] at hu
    cases hu
    refine ⟨I', up, ⟨?_, s.l1, by simp [l2], s.lp⟩, rv⟩
    have e2 : (ρ ++ (δ ++ [(f, d)]).map some).set (ρ.length + δ.length) (some (leakF f, d)) = ρ ++ (δ ++ [(leakF f, d)]).map some := by
      rw [List.set_append_right _ _ (by omega), Nat.add_sub_cancel_left, List.map_append, List.map_append, List.set_append_right _ _ (by simp)]
      simp
    rw [e2] at r
    exact r
end
/-! ### readings -/
/-- an error, on the heap -/
def RepX (N : Nm) (I : Addr → Prop) (H : Hp) : D → Value → Option Addr → Prop
  | .exc c an fs, cls, d => cls = .ref (N.cls c) ∧ N.xok c an ∧ ∃ dd hs, d = some dd ∧ H dd = some (.xd hs) ∧ RepF N I H fs hs
  | _, _, _ => False
theorem RepX.up {N : Nm} {I I' : Addr → Prop} {H : Hp} (up : ∀ p, I p → I' p) : ∀ {x : D} {cls : Value} {d : Option Addr}, RepX N I H x cls d → RepX N I' H x cls d
  | .exc c an fs, cls, d, ⟨e, xo, dd, hs, e1, e2, r⟩ => ⟨e, xo, dd, hs, e1, e2, RepF.mono up (fun _ _ _ z => z) _ _ r⟩
structure Cn where
  G : Glob
  N : Nm
  W : WX
def XOk (C : Cn) (Θ : Th) (σ : L2.St) (τ : List V) (δ : List Val) (X : X1) : Prop := ∀ x ρ' cls d H' I', S0 C.N Θ I' σ τ H' ρ' δ → RepX C.N I' H' x cls d → X x ρ' → C.W cls d σ H'
theorem XOk.pop {C : Cn} {Θ : Th} {σ : L2.St} {τ : List V} {δ : List Val} {X : X1} (h : XOk C Θ σ τ δ X) (v : V) (a : Val) : XOk C Θ σ (τ ++ [v]) (δ ++ [a]) X := fun x ρ' cls d H' I' s r q => h x ρ' cls d H' I' s.pop r q
/-- what an expression gives: never changed, or one's own -/
def okRes (a : Val) : Prop := a.1 = .imm ∨ a.1 = .own
def tE (C : Cn) (t : T) : TE := fun σ H Q => ∃ Θ I τ ρ δ P X, S0 C.N Θ I σ τ H ρ δ ∧ wpE C.G t ρ P X ∧ (∀ a ρ' v H' I', okRes a → S0 C.N Θ I' σ (τ ++ [v]) H' ρ' (δ ++ [a]) → P a ρ' → Q v H') ∧ XOk C Θ σ τ δ X
def tB (C : Cn) (b : B) : TT := fun σ H Q => ∃ Θ I τ ρ δ P X, S0 C.N Θ I σ τ H ρ δ ∧ wpB C.G b ρ P X ∧ (∀ k ρ' H' I', S0 C.N Θ I' σ τ H' ρ' δ → P k ρ' → Q k H') ∧ XOk C Θ σ τ δ X
/-- the operands' values: a name's, or at hand (behind n, one behind another) -/
def OpdsV (σ : L2.St) (τ : List V) (δ : List Val) : Nat → List Opd → List V → Prop
  | _, [], vs => vs = []
  | n, .v i :: os, vs => ∃ v r, vs = v :: r ∧ σ[i]? = some (some v) ∧ OpdsV σ τ δ n os r
  | n, .x a :: os, vs => ∃ (v : V) (r : List V) (k : Nat), vs = v :: r ∧ n ≤ k ∧ τ[k]? = some v ∧ δ[k]? = some a ∧ OpdsV σ τ δ (k + 1) os r
def tOs (C : Cn) (os : Os) : L2.St → Hp → (List V → Hp → Prop) → Prop := fun σ H K => ∃ Θ I τ ρ δ P X, S0 C.N Θ I σ τ H ρ δ ∧ wpOs C.G os ρ P X ∧
  (∀ l ρ' τ' δ' vs H' I', S0 C.N Θ I' σ (τ ++ τ') H' ρ' (δ ++ δ') → OpdsV σ (τ ++ τ') (δ ++ δ') τ.length l vs → P l ρ' → K vs H') ∧ XOk C Θ σ τ δ X
def lenT : Ts → Nat
  | .nil => 0
  | .cons _ r => lenT r + 1
def tTs (C : Cn) (ts : Ts) : TA := fun σ H K => ∃ Θ I τ ρ δ P X, S0 C.N Θ I σ τ H ρ δ ∧ wpTs C.G ts ρ P X ∧
  (∀ ds ρ' vs H' I', S0 C.N Θ I' σ τ H' ρ' δ → RepL C.N I' H' ds vs → ds.length = lenT ts → P ds ρ' → K vs H') ∧ XOk C Θ σ τ δ X
theorem PE.imp {X : Cx} {e : Expr} {t t' : TE} (h : PE X e t) (hi : ∀ σ H Q, t' σ H Q → t σ H Q) : PE X e t' := ⟨fun pins s σ H Q I q => h.run pins s σ H Q I (hi _ _ _ q)⟩
theorem PT.imp {X : Cx} {e : Expr} {t t' : TT} (h : PT X e t) (hi : ∀ σ H Q, t' σ H Q → t σ H Q) : PT X e t' := ⟨fun pins s σ H Q I q => h.run pins s σ H Q I (hi _ _ _ q)⟩
theorem PA.imp {X : Cx} {e : List Expr} {t t' : TA} (h : PA X e t) (hi : ∀ σ H Q, t' σ H Q → t σ H Q) : PA X e t' := ⟨fun pos pins s σ H Q I q => h.run pos pins s σ H Q I (hi _ _ _ q)⟩
/-! ### what is looked at in the text -/
/-- a call that is not written as one -/
inductive OpK where
  | bin (o : Operator) | eq | neg | prop (n : Str)
  | stat (C m : Str) (n : Nat) (ks : List Str)
  deriving DecidableEq
structure Cf where
  N : List Str
  /-- the forms of calls: the def's name, how many arguments by place, the keywords -/
  sh : Nat → Option (Str × Nat × List Str)
  /-- the module's constants -/
  cn : Nat → Option Str
  /-- the classes -/
  cl : Nat → Option Str
  /-- gcd stands at the module's top -/
  gcd : Bool := false
  /-- the attributes -/
  fl : Nat → Option Str := fun _ => none
  /-- methods: the name, the classes, how many arguments by place (without self), the keywords -/
  ms : Nat → Option (Str × List Nat × Nat × List Str) := fun _ => none
  /-- operators, properties, static methods; the classes -/
  ok : Nat → Option (OpK × List Nat) := fun _ => none
def visB (sc : Scope) (x : Str) : Bool := match sc.names.lookup x with
  | some .local => true
  | some .cell => true
  | some .free => true
  | _ => false
def locB (sc : Scope) (x : Str) : Bool := match sc.names.lookup x with
  | some .local => true
  | some .cell => true
  | _ => false
def glB (sc : Scope) (x : Str) : Bool := match sc.names.lookup x with
  | some .globalImplicit => true
  | _ => false
def plainN (x : Str) : Bool := !(x == ("__debug__" : Str)) && (!(x == ("__classdict__" : Str)) && !(x == ("__name__" : Str)))
def nameB (cf : Cf) (sc : Scope) (i : Nat) (x : Str) : Bool := decide (cf.N[i]? = some x) && (visB sc x && plainN x)
def notStar : Expr → Bool
  | .Starred _ _ => false
  | _ => true
def notSlice : Expr → Bool
  | .Slice _ _ _ _ => false
  | _ => true
def binB : Op → Operator → Bool
  | .add, .Add => true
  | .sub, .Sub => true
  | .mul, .Mult => true
  | .fdiv, .FloorDiv => true
  | .mod, .Mod => true
  | .pow, .Pow => true
  | .rep, .Mult => true
  | _, _ => false
def cmpB : Op → CmpOp → Bool
  | .eq, .Eq => true
  | .ne, .NotEq => true
  | .lt, .Lt => true
  | .le, .LtE => true
  | .gt, .Gt => true
  | .ge, .GtE => true
  | .in_, .In => true
  | .notin, .NotIn => true
  | .inS, .In => true
  | _, _ => false
/-- built-in functions and types by their names -/
def bltB : Op → Str → Bool
  | .len, x => x == ("len" : Str)
  | .abs, x => x == ("abs" : Str)
  | .toInt, x => x == ("int" : Str)
  | .toIntS, x => x == ("int" : Str)
  | .toStr, x => x == ("str" : Str)
  | .toList, x => x == ("list" : Str)
  | .toTuple, x => x == ("tuple" : Str)
  | .all, x => x == ("all" : Str)
  | .any, x => x == ("any" : Str)
  | .sum, x => x == ("sum" : Str)
  | .max2, x => x == ("max" : Str)
  | .min2, x => x == ("min" : Str)
  | _, _ => false
def bexN : List Str := ["ValueError", "LookupError", "IndexError"]
def tyName : Ty → Option Str
  | .int => some "int"
  | .bool => some "bool"
  | .str => some "str"
  | .list => some "list"
  | .tuple => some "tuple"
  | .dict => some "dict"
  | .bex i => bexN[i]?
  | _ => none
def tyB (cf : Cf) (sc : Scope) : Ty → Expr → Bool
  | .cls c, .Name x _ => decide (cf.cl c = some x) && (glB sc x && plainN x)
  | t, .Name x _ => decide (tyName t = some x) && glB sc x
  | _, _ => false
def tysB (cf : Cf) (sc : Scope) : List Ty → List Expr → Bool
  | [], [] => true
  | t :: ts, e :: es => tyB cf sc t e && tysB cf sc ts es
  | _, _ => false
def flags : Os → List Bool
  | .nil => []
  | .v _ r => false :: flags r
  | .e _ r => false :: flags r
  | .n _ r => true :: flags r
def noN (os : Os) : Bool := (flags os).all (!·)
def kwNames : List Keyword → Option (List Str)
  | [] => some []
  | ⟨some n, _, _⟩ :: r => (kwNames r).map (n :: ·)
  | ⟨none, _, _⟩ :: _ => none
def cstB : D → Const → Bool
  | .non, .none => true
  | .bl b, .bool c => b == c
  | .int i, .int j => decide (i = j)
  | .str x, .str y => decide (x = y)
  | _, _ => false
/-- a test whose truth is its value's -/
def plainT : Expr → Bool
  | .UnaryOp .Not _ _ => false
  | .BoolOp _ _ _ => false
  | .IfExp _ _ _ _ => false
  | .Compare _ _ _ _ => false
  | _ => true
def isCmp : Expr → Bool
  | .Compare _ [_] [_] _ => true
  | _ => false
end Ev
set_option Elab.async false
set_option linter.all false
set_option autoImplicit false
set_option maxRecDepth 100000
set_option maxHeartbeats 1000000
namespace Ev
open PySem PySem.Spec PyProof.Rows L2
/-! ### a def's promise on the heap -/
def psOf : List Val → List V → List (Option Addr)
  | (.par, _) :: as, .ref p :: vs => some p :: psOf as vs
  | _ :: as, _ :: vs => none :: psOf as vs
  | _, _ => []
def thOf (H : Hp) (I : Addr → Prop) (as : List Val) (vs : List V) : Th := ⟨H, I, fun p => some p ∈ psOf as vs, psOf as vs⟩
def okArg (a : Val) : Prop := a.1 = .imm ∨ a.1 = .par
def spOf (N : Nm) (T : Tr) : Sp := fun vs H Q E => ∃ I as Q0 X0, R N (thOf H I as vs) I (vs.map some) H (as.map some) ∧ vs.length = as.length ∧ (∀ a ∈ as, okArg a) ∧ T as Q0 X0 ∧
  (∀ r outs, Q0 r outs → ∀ v H' I' w e, okRes r → R N (thOf H I as vs) I' (w ++ [some v]) H' (e ++ [some r]) → w.length = e.length → as.length ≤ e.length → outsOf as e = some outs → Q v H') ∧
  (∀ x outs, X0 x outs → ∀ cls d H' I' w e, R N (thOf H I as vs) I' w H' e → w.length = e.length → as.length ≤ e.length → outsOf as e = some outs → RepX N I' H' x cls d → E cls d H')
theorem ps_get : ∀ {as : List Val} {vs : List V} {i : Nat} {p : Addr}, (psOf as vs)[i]? = some (some p) → (∃ d, as[i]? = some (.par, d)) ∧ vs[i]? = some (.ref p)
  | [], vs, i, p, h => by simp [psOf] at h
  | a :: as, [], i, p, h => by
    obtain ⟨f, d⟩ := a
    cases f <;> simp [psOf] at h
  | (.par, d) :: as, .ref q :: vs, 0, p, h => by
    have e : q = p := by simpa [psOf] using h
    subst e
    exact ⟨⟨d, rfl⟩, rfl⟩
  | (.par, d) :: as, .ref q :: vs, i + 1, p, h => ps_get (i := i) (by simpa [psOf] using h)
  | (.par, d) :: as, .non :: vs, i, p, h => by
    cases i with
    | zero => simp [psOf] at h
    | succ i => exact ps_get (i := i) (by simpa [psOf] using h)
  | (.par, d) :: as, .bl _ :: vs, i, p, h => by
    cases i with
    | zero => simp [psOf] at h
    | succ i => exact ps_get (i := i) (by simpa [psOf] using h)
  | (.par, d) :: as, .int _ :: vs, i, p, h => by
    cases i with
    | zero => simp [psOf] at h
    | succ i => exact ps_get (i := i) (by simpa [psOf] using h)
  | (.par, d) :: as, .str _ :: vs, i, p, h => by
    cases i with
    | zero => simp [psOf] at h
    | succ i => exact ps_get (i := i) (by simpa [psOf] using h)
  | (.par, d) :: as, .byt _ :: vs, i, p, h => by
    cases i with
    | zero => simp [psOf] at h
    | succ i => exact ps_get (i := i) (by simpa [psOf] using h)
  | (.par, d) :: as, .flt _ :: vs, i, p, h => by
    cases i with
    | zero => simp [psOf] at h
    | succ i => exact ps_get (i := i) (by simpa [psOf] using h)
  | (.par, d) :: as, .ty _ :: vs, i, p, h => by
    cases i with
    | zero => simp [psOf] at h
    | succ i => exact ps_get (i := i) (by simpa [psOf] using h)
  | (.imm, d) :: as, v :: vs, i, p, h => by
    cases i with
    | zero => simp [psOf] at h
    | succ i => exact ps_get (i := i) (by simpa [psOf] using h)
  | (.own, d) :: as, v :: vs, i, p, h => by
    cases i with
    | zero => simp [psOf] at h
    | succ i => exact ps_get (i := i) (by simpa [psOf] using h)
  | (.parl, d) :: as, v :: vs, i, p, h => by
    cases i with
    | zero => simp [psOf] at h
    | succ i => exact ps_get (i := i) (by simpa [psOf] using h)
theorem ps_of : ∀ {as : List Val} {vs : List V} {i : Nat} {p : Addr} {d : D}, as[i]? = some (.par, d) → vs[i]? = some (.ref p) → (psOf as vs)[i]? = some (some p)
  | [], vs, i, p, d, h, _ => by simp at h
  | a :: as, [], i, p, d, _, h => by simp at h
  | a :: as, v :: vs, 0, p, d, h, k => by
    have e : a = (.par, d) := Option.some.inj h
    have e2 : v = .ref p := Option.some.inj k
    subst e e2
    rfl
  | a :: as, v :: vs, i + 1, p, d, h, k => by
    have ih := ps_of (i := i) (as := as) (vs := vs) h k
    obtain ⟨f, d'⟩ := a
    cases f <;> cases v <;> exact ih
theorem ps_len : ∀ {as : List Val} {vs : List V}, vs.length = as.length → (psOf as vs).length = as.length
  | [], vs, h => by simp [psOf]
  | a :: as, [], h => by simp at h
  | a :: as, v :: vs, h => by
    have ih := ps_len (as := as) (vs := vs) (by simpa using h)
    obtain ⟨f, d⟩ := a
    cases f <;> cases v <;> simp [psOf, ih]
/-- what the ends say of a list that was handed in -/
theorem outs_get : ∀ {as : List Val} {e : Rho} {outs : List Val}, outsOf as e = some outs → ∀ {j : Nat} {d : D}, as[j]? = some (.par, d) → ∃ o : Val, outs[j]? = some o ∧ e[j]? = some (some o) ∧ (o.1 = .par ∨ o.1 = .parl)
  | [], _, _, _, j, d, h => by simp at h
  | (.par, d0) :: as, [], outs, h, _, _, _ => by simp [outsOf] at h
  | (.par, d0) :: as, none :: e, outs, h, _, _, _ => by simp [outsOf] at h
  | (.par, d0) :: as, some (.imm, _) :: e, outs, h, _, _, _ => by simp [outsOf] at h
  | (.par, d0) :: as, some (.own, _) :: e, outs, h, _, _, _ => by simp [outsOf] at h
  | (.par, d0) :: as, some (.par, d1) :: e, outs, h, j, d, k => by
    have h' : (outsOf as e).map ((.par, d1) :: ·) = some outs := h
    cases q : outsOf as e with
    | none => rw [q] at h'; cases h'
    | some r =>
      rw [q] at h'
      cases h'
      cases j with
      | zero => exact ⟨_, rfl, rfl, .inl rfl⟩
      | succ j => exact outs_get q (j := j) k
  | (.par, d0) :: as, some (.parl, d1) :: e, outs, h, j, d, k => by
    have h' : (outsOf as e).map ((.parl, d1) :: ·) = some outs := h
    cases q : outsOf as e with
    | none => rw [q] at h'; cases h'
    | some r =>
      rw [q] at h'
      cases h'
      cases j with
      | zero => exact ⟨_, rfl, rfl, .inr rfl⟩
      | succ j => exact outs_get q (j := j) k
  | (.imm, d0) :: as, [], outs, h, _, _, _ => by simp [outsOf] at h
  | (.own, d0) :: as, [], outs, h, _, _, _ => by simp [outsOf] at h
  | (.parl, d0) :: as, [], outs, h, _, _, _ => by simp [outsOf] at h
  | (.imm, d0) :: as, x :: e, outs, h, j, d, k => by
    have h' : (outsOf as e).map ((.imm, d0) :: ·) = some outs := h
    cases q : outsOf as e with
    | none => rw [q] at h'; cases h'
    | some r =>
      rw [q] at h'
      cases h'
      cases j with
      | zero => simp at k
      | succ j => exact outs_get q (j := j) k
  | (.own, d0) :: as, x :: e, outs, h, j, d, k => by
    have h' : (outsOf as e).map ((.own, d0) :: ·) = some outs := h
    cases q : outsOf as e with
    | none => rw [q] at h'; cases h'
    | some r =>
      rw [q] at h'
      cases h'
      cases j with
      | zero => simp at k
      | succ j => exact outs_get q (j := j) k
  | (.parl, d0) :: as, x :: e, outs, h, j, d, k => by
    have h' : (outsOf as e).map ((.parl, d0) :: ·) = some outs := h
    cases q : outsOf as e with
    | none => rw [q] at h'; cases h'
    | some r =>
      rw [q] at h'
      cases h'
      cases j with
      | zero => simp at k
      | succ j => exact outs_get q (j := j) k
theorem argF_own {f : Fl} : ownF (argF f) = ownF f := by cases f <;> rfl
theorem argF_par {f : Fl} (h : ownF f = true) : argF f = .par := by cases f <;> first | rfl | cases h
theorem argF_imm {f : Fl} (h : ownF f = false) : argF f = .imm := by cases f <;> first | rfl | cases h
/-- the arguments, each from a place of the caller's -/
structure ArgsAt (w : List (Option V)) (e : Rho) (js : List Nat) (as : List Val) (vs : List V) : Prop where
  la : as.length = js.length
  lv : vs.length = js.length
  at_ : ∀ (j ix : Nat), js[j]? = some ix → ∃ (f : Fl) (d : D) (v : V), e[ix]? = some (some (f, d)) ∧ as[j]? = some (argF f, d) ∧ w[ix]? = some (some v) ∧ vs[j]? = some v
  inj : ∀ (j k ix : Nat) (f : Fl) (d : D), js[j]? = some ix → js[k]? = some ix → e[ix]? = some (some (f, d)) → ownF f = true → j = k
section
variable {N : Nm} {Θ : Th} {I I' : Addr → Prop} {w w' wc : List (Option V)} {H H' : Hp} {e e' ec : Rho} {js : List Nat} {as outs : List Val} {vs : List V}
/-- the callee's beginning -/
theorem R.args (r : R N Θ I w H e) (h : ArgsAt w e js as vs) : R N (thOf H I as vs) I (vs.map some) H (as.map some) := by
  have get : ∀ (j : Nat) (a : Val), (as.map some)[j]? = some (some a) → ∃ ix f v, js[j]? = some ix ∧ a.1 = argF f ∧ e[ix]? = some (some (f, a.2)) ∧ w[ix]? = some (some v) ∧ vs[j]? = some v := fun j a q => by
    rw [List.getElem?_map] at q
    cases z : as[j]? with
    | none => rw [z] at q; cases q
    | some b =>
      rw [z] at q
      cases q
      have l : j < js.length := by rw [← h.la]; exact (List.getElem?_eq_some_iff.mp z).1
      obtain ⟨f, d, v, e1, e2, e3, e4⟩ := h.at_ j js[j] (List.getElem?_eq_getElem l)
      rw [z] at e2
      cases e2
      exact ⟨_, f, v, List.getElem?_eq_getElem l, rfl, e1, e3, e4⟩
  refine ⟨fun j a q => ?_, fun i j p a b q1 q2 o1 o2 w1 w2 => ?_, fun p o z _ => z, fun p o z => ⟨o, z⟩, fun p z => z, fun p z => .inl z, r.there, fun i a p q o w1 => ?_, fun i p q => ?_⟩
  · obtain ⟨ix, f, v, _, ef, e1, e2, e3⟩ := get j a q
    refine ⟨v, by rw [List.getElem?_map, e3]; rfl, ?_⟩
    obtain ⟨v', hv, rv⟩ := r.rep ix _ e1
    rw [e2] at hv
    cases hv
    unfold RepV at rv ⊢
    rw [ef, argF_own]
    exact rv
  · obtain ⟨ix, f, v, ej, ef, e1, e2, e3⟩ := get i a q1
    obtain ⟨iy, g, u, ej2, eg, e1', e2', e3'⟩ := get j b q2
    rw [List.getElem?_map, e3] at w1
    rw [List.getElem?_map, e3'] at w2
    cases w1
    cases w2
    rw [ef, argF_own] at o1
    rw [eg, argF_own] at o2
    have e9 := r.dis ix iy p _ _ e1 e1' o1 o2 e2 e2'
    subst e9
    exact h.inj i j ix f _ ej ej2 e1 o1
  · obtain ⟨ix, f, v, ej, ef, e1, e2, e3⟩ := get i a q
    rw [List.getElem?_map, e3] at w1
    cases w1
    rw [ef, argF_own] at o
    rw [List.getElem?_map] at q
    cases z : as[i]? with
    | none => rw [z] at q; cases q
    | some b =>
      rw [z] at q
      cases q
      obtain ⟨a1, a2⟩ := a
      have ef' : a1 = .par := by
        have ef2 : a1 = argF f := ef
        rw [ef2]
        exact argF_par o
      subst ef'
      exact .inl (List.mem_of_getElem? (ps_of z e3))
  · obtain ⟨⟨d, q1⟩, q2⟩ := ps_get q
    exact ⟨by rw [List.getElem?_map, q2]; rfl, _, by rw [List.getElem?_map, q1]; rfl, .inl rfl⟩
/-- the caller's state behind the call -/
theorem R.back (r : R N Θ I w H e) (h : ArgsAt w e js as vs) (rc : R N (thOf H I as vs) I' wc H' ec) (ho : outsOf as ec = some outs)
    (hw : ∀ (ix : Nat) (a : Val), e'[ix]? = some (some a) → w'[ix]? = w[ix]?)
    (he : ∀ (ix : Nat) (a : Val), e'[ix]? = some (some a) → (∃ (j : Nat) (f : Fl) (d : D) (o : Val), js[j]? = some ix ∧ e[ix]? = some (some (f, d)) ∧ ownF f = true ∧ outs[j]? = some o ∧ a = (backF f o.1, o.2)) ∨
      (e[ix]? = some (some a) ∧ (ownF a.1 = true → ∀ j : Nat, js[j]? ≠ some ix)))
    (hp : ∀ (i : Nat) (p : Addr), Θ.ps[i]? = some (some p) → w'[i]? = some (some (V.ref p)) ∧ ∃ a : Val, e'[i]? = some (some a) ∧ (a.1 = .par ∨ (a.1 = .parl ∧ I' p))) : R N Θ I' w' H' e' := by
  -- an own list of the caller's that was handed in
  have inW : ∀ (p : Addr), some p ∈ psOf as vs → ∃ (j ix : Nat) (f : Fl) (d : D), js[j]? = some ix ∧ e[ix]? = some (some (f, d)) ∧ ownF f = true ∧ w[ix]? = some (some (V.ref p)) := fun p hp => by
    obtain ⟨j, hj⟩ := List.getElem?_of_mem hp
    obtain ⟨⟨d, q1⟩, q2⟩ := ps_get hj
    have l : j < js.length := by rw [← h.la]; exact (List.getElem?_eq_some_iff.mp q1).1
    obtain ⟨f, d', v, e1, e2, e3, e4⟩ := h.at_ j js[j] (List.getElem?_eq_getElem l)
    rw [q1] at e2
    rw [q2] at e4
    cases e4
    have e5 : argF f = .par := by
      have := Option.some.inj e2
      exact (congrArg Prod.fst this).symm
    refine ⟨j, js[j], f, d', List.getElem?_eq_getElem l, e1, ?_, e3⟩
    rw [← argF_own, e5]
    rfl
  have nW : ∀ p, I p → ¬ some p ∈ psOf as vs := fun p ip hp => by
    obtain ⟨j, ix, f, d, _, e1, o1, e3⟩ := inW p hp
    obtain ⟨v, hv, rv⟩ := r.rep ix _ e1
    rw [e3] at hv
    cases hv
    obtain ⟨p2, e2, n2, _⟩ := (repV_own (a := (f, d)) o1).mp rv
    cases e2
    exact n2 ip
  have kI : ∀ p o, I p → H p = some o → H' p = some o := fun p o ip z => rc.keep p o z (nW p ip)
  -- an own list that was not handed in
  have kO : ∀ (ix : Nat) (a : Val) (p : Addr), e[ix]? = some (some a) → ownF a.1 = true → w[ix]? = some (some (V.ref p)) → (∀ j : Nat, js[j]? ≠ some ix) → ¬ some p ∈ psOf as vs := fun ix a p e1 o1 w1 nj hp => by
    obtain ⟨j, iy, f, d, ej, e1', o1', e3'⟩ := inW p hp
    have e9 := r.dis ix iy p _ _ e1 e1' o1 o1' w1 e3'
    subst e9
    exact nj j ej
  -- what stands behind the call at a place that was handed in
  have parAt : ∀ (j ix : Nat) (f : Fl) (d : D) (o : Val), js[j]? = some ix → e[ix]? = some (some (f, d)) → ownF f = true → outs[j]? = some o →
      ∃ p, w[ix]? = some (some (V.ref p)) ∧ ec[j]? = some (some o) ∧ wc[j]? = some (some (V.ref p)) ∧ (o.1 = .par ∨ o.1 = .parl) := fun j ix f d o ej e1 o1 eo => by
    obtain ⟨f', d', v, e1', e2, e3, e4⟩ := h.at_ j ix ej
    rw [e1] at e1'
    cases e1'
    obtain ⟨v', hv, rv⟩ := r.rep ix _ e1
    rw [e3] at hv
    cases hv
    obtain ⟨p, rfl, _, _⟩ := (repV_own (a := (f, d)) o1).mp rv
    rw [argF_par o1] at e2
    obtain ⟨o', eo', ee, oo⟩ := outs_get ho e2
    rw [eo] at eo'
    cases eo'
    exact ⟨p, e3, ee, (rc.pin j p (ps_of e2 e4)).1, oo⟩
  refine ⟨fun ix a q => ?_, fun i j p a b q1 q2 o1 o2 w1 w2 => ?_, fun p o z n => ?_, fun p o z => ?_, fun p z => rc.inc p (r.inc p z), fun p z => ?_, rc.there, fun ix a p q o w1 => ?_, hp⟩
  · rw [hw ix a q]
    rcases he ix a q with ⟨j, f, d, o, ej, e1, o1, eo, rfl⟩ | ⟨e1, nj⟩
    · obtain ⟨p, wp, eec, wwc, oo⟩ := parAt j ix f d o ej e1 o1 eo
      obtain ⟨v, hv, rv⟩ := rc.rep j o eec
      rw [wwc] at hv
      cases hv
      refine ⟨.ref p, wp, ?_⟩
      obtain ⟨o1', o2'⟩ := o
      rcases oo with oo | oo
      · have oo : o1' = .par := oo
        subst oo
        obtain ⟨p2, e2, n2, c2⟩ := (repV_own (a := (.par, o2')) rfl).mp rv
        exact (repV_own (a := (f, o2')) o1).mpr ⟨p2, e2, n2, c2⟩
      · have oo : o1' = .parl := oo
        subst oo
        have rv' := (repV_imm (a := (.parl, o2')) rfl).mp rv
        refine (repV_imm (a := (leakF f, o2')) ?_).mpr rv'
        show ownF (leakF f) = false
        cases f <;> rfl
    · obtain ⟨v, hv, rv⟩ := r.rep ix a e1
      refine ⟨v, hv, rv.mono (fun p z => rc.inc p z) kI fun p ep ow => ?_⟩
      subst ep
      have nw := kO ix a p e1 ow hv (nj ow)
      refine ⟨fun z => ?_, fun o z => rc.keep p o z nw⟩
      obtain ⟨p2, e2, n2, c2⟩ := (repV_own ow).mp rv
      cases e2
      rcases rc.bnd p z with z | z | z
      · exact n2 z
      · exact nw z
      · obtain ⟨u, hu⟩ := c2.there
        have z' : H p = none := z
        rw [z'] at hu
        cases hu
  · have old : ∀ (ix : Nat) (a : Val), e'[ix]? = some (some a) → ownF a.1 = true → ∃ b : Val, e[ix]? = some (some b) ∧ ownF b.1 = true := fun ix a q ow => by
      rcases he ix a q with ⟨j, f, d, o, ej, e1, o1, eo, rfl⟩ | ⟨e1, nj⟩
      · exact ⟨_, e1, o1⟩
      · exact ⟨_, e1, ow⟩
    rw [hw i a q1] at w1
    rw [hw j b q2] at w2
    obtain ⟨a', e1, o1'⟩ := old i a q1 o1
    obtain ⟨b', e2, o2'⟩ := old j b q2 o2
    exact r.dis i j p a' b' e1 e2 o1' o2' w1 w2
  · have z1 := r.keep p o z n
    refine rc.keep p o z1 fun hp => ?_
    obtain ⟨j, ix, f, d, ej, e1, o1, e3⟩ := inW p hp
    rcases r.wr ix _ p e1 o1 e3 with z2 | z2
    · exact n z2
    · rw [z] at z2
      cases z2
  · obtain ⟨u, hu⟩ := r.dom p o z
    exact rc.dom p u hu
  · rcases rc.bnd p z with z | z | z
    · exact r.bnd p z
    · obtain ⟨j, ix, f, d, ej, e1, o1, e3⟩ := inW p z
      exact .inr (r.wr ix _ p e1 o1 e3)
    · cases q : Θ.H0 p with
      | none => exact .inr (.inr rfl)
      | some o =>
        obtain ⟨u, hu⟩ := r.dom p o q
        have z' : H p = none := z
        rw [z'] at hu
        cases hu
  · rw [hw ix a q] at w1
    rcases he ix a q with ⟨j, f, d, o', ej, e1, o1, eo, rfl⟩ | ⟨e1, nj⟩
    · exact r.wr ix _ p e1 o1 w1
    · exact r.wr ix a p e1 o w1
/-- .. with the value -/
theorem R.backV {v : V} {a0 : Val} (r : R N Θ I w H e) (h : ArgsAt w e js as vs) (rc : R N (thOf H I as vs) I' (wc ++ [some v]) H' (ec ++ [some a0])) (hl : wc.length = ec.length) (hl2 : as.length ≤ ec.length) (ho : outsOf as ec = some outs) (hl' : w'.length = e'.length)
    (lv : vs.length = as.length) (r1 : R N Θ I' w' H' e') (hw : ∀ (ix : Nat) (a : Val), e'[ix]? = some (some a) → w'[ix]? = w[ix]?)
    (he : ∀ (ix : Nat) (a : Val), e'[ix]? = some (some a) → ∃ b : Val, e[ix]? = some (some b) ∧ (ownF a.1 = true → ownF b.1 = true)) (hf : a0.1 = .imm ∨ a0.1 = .own) : R N Θ I' (w' ++ [some v]) H' (e' ++ [some a0]) := by
  obtain ⟨v', hv, rv⟩ := rc.rep ec.length a0 (by simp)
  rw [← hl] at hv
  have ev : v' = v := by simpa using hv.symm
  subst ev
  rcases hf with hf | hf
  · obtain ⟨f, d⟩ := a0
    have hf : f = .imm := hf
    subst hf
    exact r1.push hl' rfl ((repV_imm (a := (.imm, d)) rfl).mp rv)
  · obtain ⟨f, d⟩ := a0
    have hf : f = .own := hf
    subst hf
    obtain ⟨p, rfl, nI, c⟩ := (repV_own (a := (.own, d)) rfl).mp rv
    -- a new one
    have fresh : H p = none := by
      rcases rc.wr ec.length (.own, d) p (by simp) rfl (by rw [← hl]; simp) with z | z
      · obtain ⟨j, hj⟩ := List.getElem?_of_mem (show some p ∈ psOf as vs from z)
        obtain ⟨⟨d', q1⟩, q2⟩ := ps_get hj
        have lj : j < ec.length := by have := (List.getElem?_eq_some_iff.mp q1).1; omega
        obtain ⟨o, _, eo, oo⟩ := outs_get ho q1
        have wj := (rc.pin j p hj).1
        rcases oo with oo | oo
        · have ow : ownF o.1 = true := by rw [oo]; rfl
          have := rc.dis j ec.length p o (.own, d) (get_app eo) (by simp) ow rfl wj (by rw [← hl]; simp)
          omega
        · obtain ⟨o1, o2⟩ := o
          have oo : o1 = .parl := oo
          subst oo
          obtain ⟨_, b, c1, c2⟩ := rc.pin j p hj
          rw [get_app eo] at c1
          cases c1
          rcases c2 with c2 | c2
          · cases c2
          · exact (nI c2.2).elim
      · exact z
    refine r1.pushO hl' c nI ?_ fun ix a q ow z => ?_
    · cases q : Θ.H0 p with
      | none => exact .inr rfl
      | some o =>
        obtain ⟨u, hu⟩ := r.dom p o q
        rw [fresh] at hu
        cases hu
    · obtain ⟨b, e1, o1⟩ := he ix a q
      rw [hw ix a q] at z
      obtain ⟨v2, hv2, rv2⟩ := r.rep ix b e1
      rw [z] at hv2
      cases hv2
      obtain ⟨p2, e2, _, c2⟩ := (repV_own (o1 ow)).mp rv2
      cases e2
      obtain ⟨u, hu⟩ := c2.there
      rw [fresh] at hu
      cases hu
end
end Ev
set_option Elab.async false
set_option linter.all false
set_option autoImplicit false
set_option maxRecDepth 100000
set_option maxHeartbeats 1000000
namespace Ev
open PySem PySem.Spec PyProof.Rows L2
/-! ### readings that go on -/
def MonoE (t : TE) : Prop := ∀ (σ : L2.St) (H : Hp) (Q Q' : VK), (∀ v H', Q v H' → Q' v H') → t σ H Q → t σ H Q'
theorem mono_var (i : Nat) : MonoE (tVar i) := fun σ H Q Q' h ⟨v, e, q⟩ => ⟨v, e, h v H q⟩
theorem mono_tE (C : Cn) (t : T) : MonoE (tE C t) := fun σ H Q Q' h ⟨Θ, I, τ, ρ, δ, P, X, s, w, k, x⟩ => ⟨Θ, I, τ, ρ, δ, P, X, s, w, fun a ρ' v H' I' o s' p => h v H' (k a ρ' v H' I' o s' p), x⟩
def tAll : List TE → L2.St → Hp → (List V → Hp → Prop) → Prop
  | [], _, H, K => K [] H
  | t :: ts, σ, H, K => t σ H fun x H1 => tAll ts σ H1 fun xs H2 => K (x :: xs) H2
def tAllN : List Bool → List TE → L2.St → Hp → (List V → Hp → Prop) → Prop
  | _, [], _, H, K => K [] H
  | true :: fs, t :: ts, σ, H, K => t σ H fun x H1 => ∃ i, x = .int i ∧ tAllN fs ts σ H1 fun xs H2 => K (x :: xs) H2
  | false :: fs, t :: ts, σ, H, K => t σ H fun x H1 => tAllN fs ts σ H1 fun xs H2 => K (x :: xs) H2
  | [], t :: ts, σ, H, K => t σ H fun x H1 => tAllN [] ts σ H1 fun xs H2 => K (x :: xs) H2
theorem tAll_mono : ∀ {ts : List TE}, (∀ t ∈ ts, MonoE t) → ∀ (σ : L2.St) (H : Hp) (K K' : List V → Hp → Prop), (∀ vs H', vs.length = ts.length → K vs H' → K' vs H') → tAll ts σ H K → tAll ts σ H K'
  | [], _, σ, H, K, K', h, q => h [] H rfl q
  | t :: ts, m, σ, H, K, K', h, q => m t (List.mem_cons_self ..) σ H _ _ (fun x H1 z => tAll_mono (fun u hu => m u (List.mem_cons_of_mem _ hu)) σ H1 _ _ (fun vs H' l z => h _ _ (by simp [l]) z) z) q
theorem tAll_app : ∀ {ts us : List TE}, (∀ t ∈ ts, MonoE t) → (∀ t ∈ us, MonoE t) → ∀ (σ : L2.St) (H : Hp) (K : List V → Hp → Prop), tAll (ts ++ us) σ H K → tAll ts σ H fun vs H1 => tAll us σ H1 fun zs H2 => vs.length = ts.length ∧ zs.length = us.length ∧ K (vs ++ zs) H2
  | [], us, _, m, σ, H, K, q => tAll_mono m σ H _ _ (fun vs H' l z => ⟨rfl, l, z⟩) q
  | t :: ts, us, m, m', σ, H, K, q => m t (List.mem_cons_self ..) σ H _ _ (fun x H1 z =>
      tAll_mono (fun u hu => m u (List.mem_cons_of_mem _ hu)) σ H1 _ _ (fun vs H2 l z2 => tAll_mono m' σ H2 _ _ (fun zs H3 l2 ⟨a, b, c⟩ => ⟨by simp [a], b, c⟩) z2)
        (tAll_app (fun u hu => m u (List.mem_cons_of_mem _ hu)) m' σ H1 _ z)) q
theorem tAllN_all : ∀ {fs : List Bool} {ts : List TE}, fs.all (!·) = true → ∀ (σ : L2.St) (H : Hp) (K : List V → Hp → Prop), (∀ t ∈ ts, MonoE t) → tAllN fs ts σ H K → tAll ts σ H K
  | _, [], _, σ, H, K, _, q => q
  | true :: fs, t :: ts, h, _, _, _, _, _ => by simp at h
  | false :: fs, t :: ts, h, σ, H, K, m, q => m t (List.mem_cons_self ..) σ H _ _ (fun x H1 z => tAllN_all (by simpa using h) σ H1 _ (fun u hu => m u (List.mem_cons_of_mem _ hu)) z) q
  | [], t :: ts, h, σ, H, K, m, q => m t (List.mem_cons_self ..) σ H _ _ (fun x H1 z => tAllN_all rfl σ H1 _ (fun u hu => m u (List.mem_cons_of_mem _ hu)) z) q
/-- expressions with their readings -/
structure PEM (X : Cx) (e : Expr) (t : TE) : Prop where
  pe : PE X e t
  mo : MonoE t
theorem star_cons {e : Expr} {es : List Expr} {env : Env} (h : notStar e = true) : starEach (e :: es) env = (false, eval e env) :: starEach es env := by cases e <;> first | rfl | cases h
theorem pa_all {X : Cx} : ∀ {es : List Expr} {ts : List TE}, (∀ e ∈ es, notStar e = true) → Paired (PEM X) es ts → PA X es (tAll ts)
  | [], _, _, .nil => pa_nil
  | e :: es, _, h, .cons a b => pa_cons a.pe (pa_all (fun x hx => h x (List.mem_cons_of_mem _ hx)) b) (star_cons (h e (List.mem_cons_self ..)))
theorem pk_all {X : Cx} : ∀ {kws : List Keyword} {ts : List TE}, Paired (PEM X) (kws.map (·.value)) ts → PK X kws (tAll ts)
  | [], _, .nil => pk_nil
  | ⟨n, v, p⟩ :: ks, _, .cons a b => pk_cons a.pe (pk_all b)
theorem paired_mo {X : Cx} : ∀ {es : List Expr} {ts : List TE}, Paired (PEM X) es ts → ∀ t ∈ ts, MonoE t
  | _, _, .nil, t, h => by simp at h
  | _, _, .cons a b, t, h => (List.mem_cons.mp h).elim (fun e => by rw [e]; exact a.mo) (paired_mo b t)
theorem paired_split {X : Cx} : ∀ {es fs : List Expr} {ts : List TE}, Paired (PEM X) (es ++ fs) ts → ∃ ts1 ts2, ts = ts1 ++ ts2 ∧ Paired (PEM X) es ts1 ∧ Paired (PEM X) fs ts2
  | [], fs, ts, h => ⟨[], ts, rfl, .nil, h⟩
  | e :: es, fs, _, .cons a b => by
    obtain ⟨t1, t2, e1, h1, h2⟩ := paired_split (es := es) (fs := fs) b
    exact ⟨_ :: t1, t2, by rw [e1]; rfl, .cons a h1, h2⟩
theorem plain_star {env : Env} {pos : Pos} : ∀ {es : List Expr}, (∀ e ∈ es, notStar e = true) → (backTo pos (starEach es env)).any (·.1) = false
  | [], _ => rfl
  | e :: es, h => by
    rw [star_cons (h e (List.mem_cons_self ..))]
    show ((false || (backTo pos (starEach es env)).any (·.1))) = false
    rw [plain_star fun x hx => h x (List.mem_cons_of_mem _ hx)] <;> rfl
theorem kw_names {env : Env} {pos : Pos} : ∀ {kws : List Keyword} {ks : List Str}, kwNames kws = some ks →
    (backToKw pos (keywordEach kws env)).all (·.1.isSome) = true ∧ (backToKw pos (keywordEach kws env)).filterMap (·.1) = ks ∧ (backToKw pos (keywordEach kws env)).any (·.1.isNone) = false
  | [], ks, h => by
    have e : some [] = some ks := h
    cases e
    exact ⟨rfl, rfl, rfl⟩
  | ⟨some n, v, p⟩ :: r, ks, h => by
    have h' : (kwNames r).map (n :: ·) = some ks := h
    cases q : kwNames r with
    | none => rw [q] at h'; cases h'
    | some l =>
      rw [q] at h'
      cases h'
      obtain ⟨a, b, c⟩ := kw_names (env := env) (pos := pos) q
      have e : backToKw pos (keywordEach (⟨some n, v, p⟩ :: r) env) = (some n, do let u ← eval v env; standAt pos; pure u) :: backToKw pos (keywordEach r env) := rfl
      rw [e]
      refine ⟨?_, ?_, ?_⟩
      · rw [List.all_cons, a] <;> rfl
      · rw [List.filterMap_cons, b] <;> rfl
      · rw [List.any_cons, c] <;> rfl
  | ⟨none, v, p⟩ :: r, ks, h => by cases h
/-! ### calls -/
def CallOk (P : Program) (w : World) (K : PySem.W.Frag) (mg : Str → Option Value) (base : Heap) (k : Nat) (f : Addr) (n : Nat) (ks : List Str) (sp : Sp) : Prop :=
  ∀ (A : Around) (outer : List Env) (s : Shared) (H : Hp) (us ws : List Value) (vs zs : List V) (Q : VK) (E : XK), Room k A → Env0 P w K mg base A outer s H → Vals vs us → Vals zs ws → us.length = n → ws.length = ks.length → sp (vs ++ zs) H Q E →
    codeAny (model P w) A (.call (.ref f) ⟨us, ks.zip ws⟩) (CR (L2.CX P w) outer P w H s Q E) s
section
variable {X : Cx} {W : WX} {k n : Nat} {f : Addr} {ks : List Str} {sp : Sp} {x : Str} {p pos : Pos} {es : List Expr} {kws : List Keyword} {t tk : TA}
theorem run_call {pins : List (Addr × Obj)} {σ : L2.St} {H : Hp} {s : Shared} {Q : VK} {us ws : List Value} {vs zs : List V} (F : CallOk X.prog X.w X.K X.mg X.base k f n ks sp) (hr : Room k X.A) (hx : Takes X W)
    (I : Inv X pins σ H s) (r : Vals vs us) (rz : Vals zs ws) (l1 : vs.length = n) (l2 : zs.length = ks.length) (h : sp (vs ++ zs) H Q fun cls d H' => W cls d σ H') : wpAny (model X.prog X.w) X.A (call (.ref f) us (ks.zip ws)) (EP X pins σ Q) X.xe s := by
  refine wpAny_call (codeAny_mono (F X.A X.stack s H us ws vs zs Q _ hr I.env0 r rz (r.length.symm.trans l1) (rz.length.symm.trans l2) h) fun r s' hq => ?_)
  cases r with
  | error e => exact hx _ _ (XE.of_call I (fun _ _ _ z => z) hq)
  | ok fl =>
    cases fl with
    | ret u => exact I.after hq
    | next => exact False.elim hq
    | brk => exact False.elim hq
    | cont => exact False.elim hq
def tCallX (n m : Nat) (sp : Sp) (W : WX) (t tk : TA) : TE := fun σ H Q => t σ H fun vs H1 => tk σ H1 fun zs H2 => vs.length = n ∧ zs.length = m ∧ sp (vs ++ zs) H2 Q fun cls d H' => W cls d σ H'
/-- f(e, .., k = v, ..), in all its forms -/
theorem pe_callX {ts1 ts2 : List TE} (F : CallOk X.prog X.w X.K X.mg X.base k f n ks sp) (hr : Room k X.A) (hg : Gl X x) (hm : X.mg x = some (.ref f)) (hk : PySem.W.keepIn X.K (.ref f) = true) (hx : Takes X W)
    (ha : Paired (PEM X) es ts1) (hkw : Paired (PEM X) (kws.map (·.value)) ts2) (hst : ∀ e ∈ es, notStar e = true) (hks : kwNames kws = some ks) (hdb : (x == ("__debug__" : Str)) = false) :
    PE X (.Call (.Name x p) es kws pos) (tCallX n ks.length sp W (tAll ts1) (tAll ts2)) := by
  refine ⟨fun pins s σ H Q I h => ?_⟩
  obtain ⟨q1, q2, q3⟩ := kw_names (env := X.env) (pos := pos) hks
  refine wpAny_Call_Name_kw (ld_glob I hg hm ?_ hdb)
  cases es with
  | nil =>
    cases ha
    cases kws with
    | nil =>
      cases hkw
      have hks' : ks = [] := by
        have e : some [] = some ks := hks
        cases e
        rfl
      subst hks'
      refine PySem.W.callWith_K0 I.kIn hk ?_
      obtain ⟨l1, l2, q'⟩ := h
      exact run_call (us := []) (ws := []) F hr hx I .nil .nil l1 l2 q'
    | cons kw kws =>
      refine PySem.W.callWith_KW0 (h₀ := X.base) I.ok.mod.kin hk q1 ?_ (by rw [q3]; rfl)
      refine thn ((pk_all hkw).run pos pins s σ H _ I h) fun ws s2 ⟨zs, H2, I2, rz, l1, l2, q'⟩ => ⟨I2.kIn, ?_⟩
      rw [q2]
      exact run_call (us := []) F hr hx I2 .nil rz l1 l2 q'
  | cons e es =>
    have he := star_cons (es := es) (env := X.env) (hst e (List.mem_cons_self ..))
    cases kws with
    | nil =>
      cases hkw
      have hks' : ks = [] := by
        have e : some [] = some ks := hks
        cases e
        rfl
      subst hks'
      refine PySem.W.callWith_K (h₀ := X.base) I.ok.mod.kin hk (thn ((pa_all hst ha).run pos pins s σ H _ I h) fun us s1 ⟨vs, H1, I1, r, l1, l2, q'⟩ => ⟨I1.kIn, ?_⟩) he (plain_star fun x hx => hst x (List.mem_cons_of_mem _ hx))
      exact run_call (ws := []) F hr hx I1 r .nil l1 l2 q'
    | cons kw kws =>
      refine PySem.W.callWith_KW (h₀ := X.base) I.ok.mod.kin hk q1 (thn ((pa_all hst ha).run pos pins s σ H _ I h) fun us s1 ⟨vs, H1, I1, r, q⟩ => ?_) (by rw [q3, plain_star hst]; rfl) he
      refine thn ((pk_all hkw).run pos pins s1 σ H1 _ I1 q) fun ws s2 ⟨zs, H2, I2, rz, l1, l2, q'⟩ => ⟨I2.kIn, ?_⟩
      rw [q2]
      exact run_call F hr hx I2 r rz l1 l2 q'
end
end Ev
set_option Elab.async false
set_option linter.all false
set_option autoImplicit false
set_option maxRecDepth 100000
set_option maxHeartbeats 1000000
namespace Ev
open PySem PySem.Spec PyProof.Rows L2
/-! ### an attribute of an error that lies among the values (not caught) -/
/-- e.f where e is an error with a dict -/
def tXfv (K : PySem.W.Frag) (f : Str) (te : TE) : TE := fun σ H Q => te σ H fun x H1 => ∃ (a C dx : Addr) (fs : List (Str × V)) (v : V), x = .ref a ∧ XfC K C ∧ PySem.W.findIn K (.ref C) f = some none ∧ H1 a = some (exo a C (some dx)) ∧ H1 dx = some (exd dx fs) ∧ fs.lookup f = some v ∧ Q v H1
theorem pe_xfv {X : Cx} {e : Expr} {te : TE} {pos : Pos} {n : Str} (he : PE X e te) (hb : attributeBase e n X.env (eval e X.env) = eval e X.env := by rfl) :
    PE X (.Attribute e n pos) (tXfv X.K n te) := by
  refine ⟨fun pins s σ H Q I h => ?_⟩
  refine attr_of hb (thn (he.run pins s σ H _ I h) fun u s1 hh => ?_)
  obtain ⟨x, H1, I1, rx, a, C, dx, fs, v, ex, T, hno, ea, ed, l, q⟩ := hh
  subst ex
  obtain rfl : u = Value.ref a := rx
  obtain ⟨t1, ho⟩ := exo_at I1.hok ea
  obtain ⟨mA, hns, hr⟩ := exd_at I1.hok ed
  obtain ⟨od, hod, hl⟩ := lookIn_ns hns
  obtain ⟨w, hu, ru⟩ := RelO.some_of (v := v) (o := mA n) (by rw [← l]; exact hr n)
  have J : PySem.W.InstAt s1.heap a { cls := .ref C, dict := some dx, data := .fields #[.ref t1, .none, .none, .none, .bool false, .none] } C (some od) := ⟨ho, rfl, rfl, hod⟩
  exact HandSPX.exc_get I1.kIn J T.ga T.gg T.exC (PySem.W.findObj_own T.hdC hno rfl (by rw [hl, hu])) (handed_of ru) ⟨v, H1, I1.tok _, ru, q⟩
/-- e.f, of an error or of an instance -/
def rAt (K : PySem.W.Frag) (f : Str) (x : V) (H1 : Hp) (Q : VK) : Prop :=
  (∃ (a C dx : Addr) (fs : List (Str × V)) (v : V), x = .ref a ∧ XfC K C ∧ PySem.W.findIn K (.ref C) f = some none ∧ H1 a = some (exo a C (some dx)) ∧ H1 dx = some (exd dx fs) ∧ fs.lookup f = some v ∧ Q v H1) ∨
  ∃ (a C dx : Addr) (fs : List (Str × V)) (v : V), x = .ref a ∧ H1 a = some (.ins C dx fs) ∧ Cls K C ∧ NoAttr K C f ∧ fs.lookup f = some v ∧ Q v H1
theorem pe_at {X : Cx} {e : Expr} {te : TE} {pos : Pos} {n : Str} (he : PE X e te) (hb : attributeBase e n X.env (eval e X.env) = eval e X.env) : PE X (.Attribute e n pos) (fun σ H Q => te σ H fun x H1 => rAt X.K n x H1 Q) := by
  refine ⟨fun pins s σ H Q I h => ?_⟩
  refine attr_of hb (thn (he.run pins s σ H _ I h) fun u s1 ⟨x, H1, I1, rx, q⟩ => ?_)
  rcases q with ⟨a, C, dx, fs, v, ex, T, hno, ea, ed, l, q⟩ | ⟨a, C, dx, fs, v, ex, ea, c, n', l, q⟩
  · subst ex
    obtain rfl : u = Value.ref a := rx
    obtain ⟨t1, ho⟩ := exo_at I1.hok ea
    obtain ⟨mA, hns, hr⟩ := exd_at I1.hok ed
    obtain ⟨od, hod, hl⟩ := lookIn_ns hns
    obtain ⟨w, hu, ru⟩ := RelO.some_of (v := v) (o := mA n) (by rw [← l]; exact hr n)
    have J : PySem.W.InstAt s1.heap a { cls := .ref C, dict := some dx, data := .fields #[.ref t1, .none, .none, .none, .bool false, .none] } C (some od) := ⟨ho, rfl, rfl, hod⟩
    exact HandSPX.exc_get I1.kIn J T.ga T.gg T.exC (PySem.W.findObj_own T.hdC hno rfl (by rw [hl, hu])) (handed_of ru) ⟨v, H1, I1.tok _, ru, q⟩
  · subst ex
    obtain rfl : u = Value.ref a := rx
    exact getattr_ok I1 ea c n' l fun u' s2 I2 ru => ⟨v, H1, I2, ru, q⟩
end Ev
set_option Elab.async false
set_option linter.all false
set_option autoImplicit false
set_option maxRecDepth 100000
set_option maxHeartbeats 1000000
namespace Ev
open PySem PySem.Spec PyProof.Rows L2
/-! ### an attribute by its number -/
section
variable {N : Nm} {I : Addr → Prop} {H : Hp} {P : Val → Prop} {Q : VK}
/-- the attributes by number are those by name -/
theorem repF_get {i : Nat} {d : D} (hi : ∀ j, N.fld j = N.fld i → j = i) : ∀ {fs : List (Nat × D)} {hs : List (Str × V)}, RepF N I H fs hs → fs.lookup i = some d → ∃ v, hs.lookup (N.fld i) = some v ∧ Rep N I H d v
  | [], hs, _, h => by cases h
  | (f, d1) :: fs, hs, ⟨v, r, e, a, b⟩, h => by
    subst e
    rw [List.lookup_cons] at h
    rw [List.lookup_cons]
    cases q : i == f with
    | true =>
      rw [q] at h
      have e : i = f := by simpa using q
      subst e
      obtain rfl : d1 = d := by simpa using h
      rw [show (N.fld i == N.fld i) = true from by simp]
      exact ⟨v, rfl, a⟩
    | false =>
      rw [q] at h
      have ne : N.fld i ≠ N.fld f := fun z => by
        have := hi _ z.symm
        subst this
        simp at q
      rw [show (N.fld i == N.fld f) = false from by simpa using ne]
      exact repF_get hi b h
/-- what is known of an attribute's name -/
structure FldOk (N : Nm) (i : Nat) (n : Str) : Prop where
  fld : N.fld i = n
  inj : ∀ j, N.fld j = n → j = i
  exc : ∀ c an, N.xok c an → XfC N.K (N.cls c) ∧ PySem.W.findIn N.K (.ref (N.cls c)) n = some none
  obj : ∀ c, N.ok c → N.has c i → Cls N.K (N.cls c) ∧ NoAttr N.K (N.cls c) n
theorem lookup_mem {i : Nat} {d : D} : ∀ {fs : List (Nat × D)}, fs.lookup i = some d → (i, d) ∈ fs
  | [], h => by cases h
  | (f, e) :: fs, h => by
    rw [List.lookup_cons] at h
    cases q : i == f with
    | true =>
      rw [q] at h
      have e1 : i = f := by simpa using q
      obtain rfl : e = d := by simpa using h
      rw [e1]
      exact List.mem_cons_self ..
    | false =>
      rw [q] at h
      exact List.mem_cons_of_mem _ (lookup_mem h)
/-- what an attribute's reading asks -/
theorem ok_fld {i : Nat} {n : Str} (F : FldOk N i n) {d1 : D} {v : V} (h : opP (.fld i) [d1] P) (p1 : Peek N I H d1 v) (q : Then N I H P Q) : rAt N.K n v H Q := by
  cases d1 with
  | exc c an fs =>
    obtain ⟨d, l, p⟩ := h
    obtain ⟨xo, a, dx, hs, e, _, _, ha, hd, rf⟩ := p1
    have en := F.fld
    subst en
    obtain ⟨u, hu, ru⟩ := repF_get F.inj rf l
    obtain ⟨f1, f2⟩ := F.exc _ _ xo
    exact .inl ⟨a, _, dx, hs, u, e, f1, f2, ha, hd, hu, q.old ru p⟩
  | obj c fs =>
    obtain ⟨d, l, p⟩ := h
    obtain ⟨⟨ok, has⟩, a, dx, hs, e, ha, rf⟩ := p1
    have en := F.fld
    subst en
    obtain ⟨u, hu, ru⟩ := repF_get F.inj rf l
    obtain ⟨f1, f2⟩ := F.obj _ ok (has _ (lookup_mem l))
    exact .inr ⟨a, _, dx, hs, u, e, ha, f1, f2, hu, q.old ru p⟩
  | _ => exact h.elim
/-- an attribute is stored -/
theorem repF_put {i : Nat} {d : D} {v : V} (hi : ∀ j, N.fld j = N.fld i → j = i) (rv : Rep N I H d v) : ∀ {fs : List (Nat × D)} {hs : List (Str × V)}, RepF N I H fs hs → RepF N I H (putFD i d fs) (putF (N.fld i) v hs)
  | [], hs, h => by
    have h : hs = [] := h
    subst h
    exact ⟨v, [], rfl, rv, rfl⟩
  | (g, d1) :: fs, hs, ⟨u, r, e, a, b⟩ => by
    subst e
    show RepF N I H (if g = i then (g, d) :: fs else (g, d1) :: putFD i d fs) (if N.fld g = N.fld i then (N.fld g, v) :: r else (N.fld g, u) :: putF (N.fld i) v r)
    by_cases c : g = i
    · subst c
      rw [if_pos rfl, if_pos rfl]
      exact ⟨v, r, rfl, rv, b⟩
    · rw [if_neg c, if_neg fun z => c (hi _ z)]
      exact ⟨u, _, rfl, a, repF_put hi rv b⟩
theorem putFD_mem {i : Nat} {d : D} {c : Nat → Prop} (hi : c i) : ∀ {fs : List (Nat × D)}, (∀ q ∈ fs, c q.1) → ∀ q ∈ putFD i d fs, c q.1
  | [], _, q, h => by
    have e : q = (i, d) := by simpa [putFD] using h
    rw [e]
    exact hi
  | (g, d1) :: fs, hh, q, h => by
    have h : q ∈ (if g = i then (g, d) :: fs else (g, d1) :: putFD i d fs) := h
    split at h
    · rename_i e
      rcases List.mem_cons.mp h with e2 | h
      · rw [e2]
        exact hh (g, d1) (List.mem_cons_self ..)
      · exact hh q (List.mem_cons_of_mem _ h)
    · rcases List.mem_cons.mp h with e2 | h
      · rw [e2]
        exact hh (g, d1) (List.mem_cons_self ..)
      · exact putFD_mem hi (fun q hq => hh q (List.mem_cons_of_mem _ hq)) q h
theorem repF_len : ∀ {fs : List (Nat × D)} {hs : List (Str × V)}, RepF N I H fs hs → hs.length = fs.length
  | [], hs, h => by rw [show hs = [] from h]; rfl
  | (g, d) :: fs, hs, ⟨u, r, e, a, b⟩ => by rw [e, List.length_cons, List.length_cons, repF_len b]
theorem repF_none {m : Str} : ∀ {fs : List (Nat × D)} {hs : List (Str × V)}, RepF N I H fs hs → (∀ q ∈ fs, N.fld q.1 ≠ m) → hs.lookup m = none
  | [], hs, h, _ => by rw [show hs = [] from h]; rfl
  | (g, d) :: fs, hs, ⟨u, r, e, a, b⟩, hm => by
    subst e
    rw [List.lookup_cons]
    have ne : N.fld g ≠ m := hm (g, d) (List.mem_cons_self ..)
    rw [show (m == N.fld g) = false from by simpa using fun z => ne z.symm]
    exact repF_none b fun q hq => hm q (List.mem_cons_of_mem _ hq)
end
def notSup : Expr → Bool
  | .Call _ [] _ _ => false
  | _ => true
theorem notSup_base {o : Expr} {n : Str} {env : Env} {w : Sem Value} (h : notSup o = true) : attributeBase o n env w = w := by
  cases o with
  | Call f as kws p =>
    cases as with
    | nil => cases h
    | cons a r => cases f <;> rfl
  | _ => rfl
end Ev
set_option Elab.async false
set_option linter.all false
set_option autoImplicit false
set_option maxRecDepth 100000
set_option maxHeartbeats 1000000
namespace Ev
open PySem PySem.Spec PyProof.Rows L2
/-! ### instances: their methods and operators, at a call's promise -/
section
variable {X : Cx} {W : WX} {k n : Nat} {ks : List Str} {sp : Sp} {m : Str} {pos apos : Pos} {o a b : Expr} {es : List Expr} {kws : List Keyword} {to ta tb : TE} {OkC : Addr → Prop}
theorem ins_at {pins : List (Addr × Obj)} {σ : L2.St} {H : Hp} {s : Shared} {p C dx : Addr} {fs : List (Str × V)} (I : Inv X pins σ H s) (e : H p = some (.ins C dx fs)) : ∃ od, PySem.W.InstAt s.heap p (PySem.W.instObj C dx) C (some od) := by
  obtain ⟨mA, O, _⟩ := ins_get I.hok e
  obtain ⟨od, J, _⟩ := O.look
  exact ⟨od, J⟩
theorem star_all {env : Env} {pos : Pos} : ∀ {es : List Expr}, (∀ e ∈ es, notStar e = true) → (backTo pos (starEach es env)).all (!·.1) = true
  | [], _ => rfl
  | e :: es, h => by
    rw [star_cons (h e (List.mem_cons_self ..))]
    show ((!false) && (backTo pos (starEach es env)).all (!·.1)) = true
    rw [star_all fun x hx => h x (List.mem_cons_of_mem _ hx)] <;> rfl
theorem few_ok {env : Env} (hst : ∀ e ∈ es, notStar e = true) (hks : kwNames kws = some ks) (hl : es.length + kws.length < 29) : methodCallForm (es.length + kws.length) (backTo pos (starEach es env)) (backToKw pos (keywordEach kws env)) = true := by
  obtain ⟨q1, _, _⟩ := kw_names (env := env) (pos := pos) hks
  unfold methodCallForm
  rw [star_all hst, q1, Bool.true_and, Bool.true_and]
  refine decide_eq_true ?_
  split <;> omega
theorem meth_eval {env : Env} (hb : attributeBase o m env (eval o env) = eval o env) (hl : (apos.endLine == pos.line) = true) (hf : methodCallForm (es.length + kws.length) (backTo pos (starEach es env)) (backToKw pos (keywordEach kws env)) = true) :
    eval (.Call (.Attribute o m apos) es kws pos) env = (do
      let ov ← eval o env
      standAt apos.atName
      let (f, first) ← holding [ov] (getMethod ov m (do return (← importBound o env).getD true))
      callWith pos f first (backTo pos (starEach es env)) (backToKw pos (keywordEach kws env))) := by
  have hpos : methodCallPos true o env apos pos = pure pos := by
    unfold methodCallPos
    rw [hl]
    rfl
  rw [PySem.arm_eval_Call, hb]
  unfold methodCall
  rw [hf, hpos]
  simp only [pure_bind]
  rfl
/-- o.m(e, .., k = v, ..) -/
def tMethX (OkC : Addr → Prop) (m : Str) (n mm : Nat) (sp : Sp) (W : WX) (to : TE) (t tk : TA) : TE := fun σ H Q => to σ H fun x H1 => ∃ a C dx fs, x = .ref a ∧ OkC C ∧ H1 a = some (.ins C dx fs) ∧ fs.lookup m = none ∧
  t σ H1 fun vs H2 => tk σ H2 fun zs H3 => vs.length = n ∧ zs.length = mm ∧ sp (x :: (vs ++ zs)) H3 Q fun cls d H' => W cls d σ H'
theorem pe_methX {ts1 ts2 : List TE} (he : PE X o to) (hC : ∀ C, OkC C → Cls X.K C ∧ ∃ f, Meth X.K C m f ∧ CallOk X.prog X.w X.K X.mg X.base k f (n + 1) ks sp) (hr : Room k X.A) (hx : Takes X W)
    (ha : Paired (PEM X) es ts1) (hkw : Paired (PEM X) (kws.map (·.value)) ts2) (hst : ∀ e ∈ es, notStar e = true) (hks : kwNames kws = some ks) (hlen : es.length + kws.length < 29) (hl : (apos.endLine == pos.line) = true) (hb : attributeBase o m X.env (eval o X.env) = eval o X.env) :
    PE X (.Call (.Attribute o m apos) es kws pos) (tMethX OkC m n ks.length sp W to (tAll ts1) (tAll ts2)) := by
  refine ⟨fun pins s σ H Q I h => ?_⟩
  obtain ⟨q1, q2, q3⟩ := kw_names (env := X.env) (pos := pos) hks
  refine PySem.W.methodCall_KW (thn (he.run pins s σ H _ I h) fun u s1 ⟨x, H1, I1, rx, p, C, dx, fs, ex, oc, ea, l, q⟩ => ?_) (meth_eval hb hl (few_ok hst hks hlen))
  subst ex
  obtain rfl : u = Value.ref p := rx
  obtain ⟨c, f, hm, F⟩ := hC C oc
  refine getmeth_ok I1 ea c hm l ?_
  cases es with
  | nil =>
    cases ha
    cases kws with
    | nil =>
      cases hkw
      have hks' : ks = [] := by
        have e : some [] = some ks := hks
        cases e
        rfl
      subst hks'
      obtain ⟨l1, l2, q'⟩ := q
      refine PySem.W.callWith_K0 (first := [.ref p]) I1.kIn hm.kp ?_
      exact run_call (us := [.ref p]) (ws := []) (vs := [.ref p]) (zs := []) F hr hx I1 (.cons rfl .nil) .nil (by rw [← l1]; rfl) l2 q'
    | cons kw kws =>
      refine PySem.W.callWith_KW0 (first := [.ref p]) (h₀ := X.base) I.ok.mod.kin hm.kp q1 ?_ (by rw [q3]; rfl)
      refine thn ((pk_all hkw).run pos pins s1 σ H1 _ I1 q) fun ws s2 ⟨zs, H2, I2, rz, l1, l2, q'⟩ => ⟨I2.kIn, ?_⟩
      rw [q2]
      exact run_call (us := [.ref p]) (vs := [.ref p]) F hr hx I2 (.cons rfl .nil) rz (by rw [← l1]; rfl) l2 q'
  | cons e es =>
    have he' := star_cons (es := es) (env := X.env) (hst e (List.mem_cons_self ..))
    cases kws with
    | nil =>
      cases hkw
      have hks' : ks = [] := by
        have e : some [] = some ks := hks
        cases e
        rfl
      subst hks'
      refine PySem.W.callWith_K (first := [.ref p]) (h₀ := X.base) I.ok.mod.kin hm.kp (thn ((pa_all hst ha).run pos pins s1 σ H1 _ I1 q) fun us s2 ⟨vs, H2, I2, r, l1, l2, q'⟩ => ⟨I2.kIn, ?_⟩) he' (plain_star fun x hx => hst x (List.mem_cons_of_mem _ hx))
      exact run_call (us := .ref p :: us) (vs := .ref p :: vs) (ws := []) F hr hx I2 (.cons rfl r) .nil (by simp [l1]) l2 q'
    | cons kw kws =>
      refine PySem.W.callWith_KW (first := [.ref p]) (h₀ := X.base) I.ok.mod.kin hm.kp q1 (thn ((pa_all hst ha).run pos pins s1 σ H1 _ I1 q) fun us s2 ⟨vs, H2, I2, r, q⟩ => ?_) (by rw [q3, plain_star hst]; rfl) he'
      refine thn ((pk_all hkw).run pos pins s2 σ H2 _ I2 q) fun ws s3 ⟨zs, H3, I3, rz, l1, l2, q'⟩ => ⟨I3.kIn, ?_⟩
      rw [q2]
      exact run_call (us := .ref p :: us) (vs := .ref p :: vs) F hr hx I3 (.cons rfl r) rz (by simp [l1]) l2 q'
/-- two instances of one class -/
def InsTwo (OkC : Addr → Prop) (H : Hp) (x y : V) : Prop := ∃ p C dx fs q dy gs, x = .ref p ∧ y = .ref q ∧ OkC C ∧ H p = some (.ins C dx fs) ∧ H q = some (.ins C dy gs)
def tBinX (OkC : Addr → Prop) (sp : Sp) (W : WX) (ta tb : TE) : TE := fun σ H Q => ta σ H fun x H1 => tb σ H1 fun y H2 => InsTwo OkC H2 x y ∧ sp [x, y] H2 Q fun cls d H' => W cls d σ H'
theorem pe_binX {op : Operator} (ha : PE X a ta) (hb : PE X b tb) (hC : ∀ C, OkC C → PySem.W.selfFirst X.K C = true ∧ ∃ f, PySem.W.findIn X.K (.ref C) (PySem.dunder op.info.2) = some (some (.ref f)) ∧ PySem.W.isFn X.K (.ref f) = true ∧ CallOk X.prog X.w X.K X.mg X.base k f 2 [] sp)
    (hr : Room k X.A) (hx : Takes X W) : PE X (.BinOp a op b pos) (tBinX OkC sp W ta tb) := by
  refine ⟨fun pins s σ H Q I h => ?_⟩
  refine wpAny_BinOp (binT ha hb I (R := fun x y H2 => InsTwo OkC H2 x y ∧ sp [x, y] H2 Q fun cls d H' => W cls d σ H') h fun v u s2 x y H2 I2 rx ry q => ?_)
  obtain ⟨⟨p, C, dx, fs, q, dy, gs, ex, ey, oc, ep, eq⟩, hsp⟩ := q
  subst ex ey
  obtain rfl : v = Value.ref p := rx
  obtain rfl : u = Value.ref q := ry
  obtain ⟨sf, f, h1, h2, F⟩ := hC C oc
  obtain ⟨od, J⟩ := ins_at I2 ep
  obtain ⟨od', J'⟩ := ins_at I2 eq
  obtain ⟨mm, hF⟩ := I2.fr
  refine PySem.W.binop_K hF I2.ok.mod.kin J J'.type sf h1 h2 (wpAny_mono (run_call (us := [.ref p, .ref q]) (ws := []) (vs := [.ref p, .ref q]) (zs := []) F hr hx I2 (.cons rfl (.cons rfl .nil)) .nil rfl rfl hsp) (fun w s' z => ?_) fun _ _ x => x)
  obtain ⟨z', H', I', rz, qz⟩ := z
  exact SlX.cmpback rz ⟨z', H', I', rz, qz⟩
/-- an own == -/
theorem pc_eqX (ha : PE X a ta) (hb : PE X b tb) (hC : ∀ C, OkC C → ∃ f, PySem.W.findIn X.K (.ref C) "__eq__" = some (some (.ref f)) ∧ PySem.W.isFn X.K (.ref f) = true ∧ CallOk X.prog X.w X.K X.mg X.base k f 2 [] sp)
    (hr : Room k X.A) (hx : Takes X W) : PC X .Eq a b (tBinX OkC sp W ta tb) := by
  refine ⟨fun pins s σ H Q I h => ?_⟩
  refine binT ha hb I (R := fun x y H2 => InsTwo OkC H2 x y ∧ sp [x, y] H2 Q fun cls d H' => W cls d σ H') h fun v u s2 x y H2 I2 rx ry q => ?_
  obtain ⟨⟨p, C, dx, fs, q, dy, gs, ex, ey, oc, ep, eq⟩, hsp⟩ := q
  subst ex ey
  obtain rfl : v = Value.ref p := rx
  obtain rfl : u = Value.ref q := ry
  obtain ⟨f, h1, h2, F⟩ := hC C oc
  obtain ⟨od, J⟩ := ins_at I2 ep
  obtain ⟨od', J'⟩ := ins_at I2 eq
  obtain ⟨mm, hF⟩ := I2.fr
  have nf : PySem.W.notFirst X.K C (.ref C) = true := by
    unfold PySem.W.notFirst
    rw [show (Value.ref C == Value.ref C) = true from by simp]
    rfl
  show wpAny _ _ (richCompare .Eq (.ref p) (.ref q)) _ _ _
  refine PySem.W.cmp_K (op := .Eq) (tb := .ref C) hr.units0 hF I2.ok.mod.kin J J'.type nf h1 h2 ?_
  refine wpAny_mono (run_call (us := [.ref p, .ref q]) (ws := []) (vs := [.ref p, .ref q]) (zs := []) F hr hx I2 (.cons rfl (.cons rfl .nil)) .nil rfl rfl hsp) (fun w s' z => ?_) fun _ _ x => x
  obtain ⟨z', H', I', rz, qz⟩ := z
  exact SlX.cmpback rz ⟨z', H', I', rz, qz⟩
/-- one instance -/
def tOneX (OkC : Addr → Prop) (sp : Sp) (W : WX) (ta : TE) : TE := fun σ H Q => ta σ H fun x H1 => (∃ p C dx fs, x = .ref p ∧ OkC C ∧ H1 p = some (.ins C dx fs)) ∧ sp [x] H1 Q fun cls d H' => W cls d σ H'
theorem pe_negX (ha : PE X a ta) (hC : ∀ C, OkC C → ∃ f, PySem.W.findIn X.K (.ref C) "__neg__" = some (some (.ref f)) ∧ PySem.W.isFn X.K (.ref f) = true ∧ CallOk X.prog X.w X.K X.mg X.base k f 1 [] sp)
    (hr : Room k X.A) (hx : Takes X W) : PE X (.UnaryOp .USub a pos) (tOneX OkC sp W ta) := by
  refine ⟨fun pins s σ H Q I h => ?_⟩
  refine UnaryOp_ (thn (ha.run pins s σ H _ I h) fun v s1 ⟨x, H1, I1, r1, ⟨p, C, dx, fs, ex, oc, ep⟩, hsp⟩ => ?_)
  subst ex
  obtain rfl : v = Value.ref p := r1
  obtain ⟨f, h1, h2, F⟩ := hC C oc
  obtain ⟨od, J⟩ := ins_at I1 ep
  obtain ⟨mm, hF⟩ := I1.fr
  exact PySem.W.ksp_neg hF I1.ok.mod.kin J h1 h2 (run_call (us := [.ref p]) (ws := []) (vs := [.ref p]) (zs := []) F hr hx I1 (.cons rfl .nil) .nil rfl rfl hsp)
/-- C.m(..), a staticmethod -/
structure StatOf (K : PySem.W.Frag) (C : Addr) (m : Str) (f : Addr) : Prop where
  ga : PySem.W.specialIn K (.ref C) "__getattribute__" = some (some (.builtin "type.__getattribute__"))
  ty : ∃ mc, PySem.W.typeIn K (.ref C) = some mc ∧ PySem.W.readsIn K C mc = true ∧ ∃ p, PySem.W.findCls K (.ref C) mc m = some (.get (.builtin "staticmethod.__get__") (.ref p) .none (.ref C)) ∧ ∃ rest, PySem.W.recIn K p "staticmethod" = some (.ref f :: rest)
  kp : PySem.W.keepIn K (.ref f) = true
theorem pe_statX {x : Str} {f C : Addr} {p0 : Pos} {ts1 ts2 : List TE} (hg : Gl X x) (hm : X.mg x = some (.ref C)) (hdb : (x == ("__debug__" : Str)) = false) (St : StatOf X.K C m f) (F : CallOk X.prog X.w X.K X.mg X.base k f n ks sp) (hr : Room k X.A) (hx : Takes X W)
    (ha : Paired (PEM X) es ts1) (hkw : Paired (PEM X) (kws.map (·.value)) ts2) (hst : ∀ e ∈ es, notStar e = true) (hks : kwNames kws = some ks) (hlen : es.length + kws.length < 29) (hl : (apos.endLine == pos.line) = true) :
    PE X (.Call (.Attribute (.Name x p0) m apos) es kws pos) (tCallX n ks.length sp W (tAll ts1) (tAll ts2)) := by
  refine ⟨fun pins s σ H Q I h => ?_⟩
  obtain ⟨q1, q2, q3⟩ := kw_names (env := X.env) (pos := pos) hks
  obtain ⟨ga, ⟨mc, t1, t2, p, t3, rest, t4⟩, kp⟩ := St
  refine PySem.W.methodCall_KW (ld_glob I hg hm ?_ hdb) (meth_eval rfl hl (few_ok hst hks hlen))
  obtain ⟨mm, hF⟩ := I.fr
  refine PySem.W.method_cls I.kIn ga (PySem.W.cls_sm hF I.ok.mod.kin t1 t2 t3 t4 rfl ?_)
  have I1 : Inv X pins σ H { s with toks := s.toks + 1 } := I.tok _
  cases es with
  | nil =>
    cases ha
    cases kws with
    | nil =>
      cases hkw
      have hks' : ks = [] := by
        have e : some [] = some ks := hks
        cases e
        rfl
      subst hks'
      refine PySem.W.callWith_K0 I1.kIn kp ?_
      obtain ⟨l1, l2, q'⟩ := h
      exact run_call (us := []) (ws := []) F hr hx I1 .nil .nil l1 l2 q'
    | cons kw kws =>
      refine PySem.W.callWith_KW0 (h₀ := X.base) I.ok.mod.kin kp q1 ?_ (by rw [q3]; rfl)
      refine thn ((pk_all hkw).run pos pins _ σ H _ I1 h) fun ws s2 ⟨zs, H2, I2, rz, l1, l2, q'⟩ => ⟨I2.kIn, ?_⟩
      rw [q2]
      exact run_call (us := []) F hr hx I2 .nil rz l1 l2 q'
  | cons e es =>
    have he := star_cons (es := es) (env := X.env) (hst e (List.mem_cons_self ..))
    cases kws with
    | nil =>
      cases hkw
      have hks' : ks = [] := by
        have e : some [] = some ks := hks
        cases e
        rfl
      subst hks'
      refine PySem.W.callWith_K (h₀ := X.base) I.ok.mod.kin kp (thn ((pa_all hst ha).run pos pins _ σ H _ I1 h) fun us s1 ⟨vs, H1, I2, r, l1, l2, q'⟩ => ⟨I2.kIn, ?_⟩) he (plain_star fun x hx => hst x (List.mem_cons_of_mem _ hx))
      exact run_call (ws := []) F hr hx I2 r .nil l1 l2 q'
    | cons kw kws =>
      refine PySem.W.callWith_KW (h₀ := X.base) I.ok.mod.kin kp q1 (thn ((pa_all hst ha).run pos pins _ σ H _ I1 h) fun us s1 ⟨vs, H1, I2, r, q⟩ => ?_) (by rw [q3, plain_star hst]; rfl) he
      refine thn ((pk_all hkw).run pos pins s1 σ H1 _ I2 q) fun ws s2 ⟨zs, H2, I3, rz, l1, l2, q'⟩ => ⟨I3.kIn, ?_⟩
      rw [q2]
      exact run_call F hr hx I3 r rz l1 l2 q'
/-- e.f, a property: its getter is called -/
def tPropX (OkC : Addr → Prop) (sp : Sp) (ta : TE) : TE := fun σ H Q => ta σ H fun x H1 => (∃ p C dx fs, x = .ref p ∧ OkC C ∧ H1 p = some (.ins C dx fs)) ∧ sp [x] H1 Q fun _ _ _ => False
theorem pe_propX {f : Str} (ha : PE X a ta) (hC : ∀ C, OkC C → Cls X.K C ∧ ∃ p g, PropOf X.K C f p g ∧ CallOk X.prog X.w X.K X.mg X.base k g 1 [] sp) (hr : Room (k + 1) X.A) (hb : attributeBase a f X.env (eval a X.env) = eval a X.env) : PE X (.Attribute a f pos) (tPropX OkC sp ta) := by
  refine ⟨fun pins s σ H Q I h => ?_⟩
  refine attr_of hb (thn (ha.run pins s σ H _ I h) fun u s1 ⟨x, H1, I1, rx, ⟨p, C, dx, fs, ex, oc, ep⟩, q⟩ => ?_)
  subst ex
  obtain rfl : u = Value.ref p := rx
  obtain ⟨c, pp, g, hp, F⟩ := hC C oc
  obtain ⟨mA, O, _, _, _, _⟩ := ins_get I1.hok ep
  obtain ⟨od, J, _⟩ := O.look
  obtain ⟨rest, hrec⟩ := hp.rec_
  have I2 := I1.tok (s1.toks + 1)
  have hc : (PySem.W.clsIn X.K C).isSome = true := by
    obtain ⟨cd, h1, _⟩ := PySem.W.any_some c.hd
    rw [h1]
    rfl
  refine PySem.W.get_bind I1.kIn J (PySem.W.plainGet_of (c.get f)).1 (PySem.W.findObj_data hc hp.at_ hp.get hp.tak) (PySem.W.plainGet_of (c.get f)).2 (wpAny_call (PySem.W.prop_get (s := { s1 with toks := s1.toks + 1 }) I1.kIn hrec ?_))
  refine codeAny_mono (F X.A.in1 X.stack { s1 with toks := s1.toks + 1 } H1 [.ref p] [] [.ref p] [] Q _ hr.in1 I2.env0.in1 (.cons rfl .nil) .nil rfl rfl q) fun r s' hq => ?_
  cases r with
  | error er =>
    obtain ⟨_, _, _, _, _, _, _, _, _, _, _, _, z⟩ := hq
    exact z.elim
  | ok fl =>
    cases fl with
    | ret u =>
      obtain ⟨v, H', I3, rv, q3⟩ := I2.after hq
      show wpAny _ _ (handedOut u) _ _ _
      rw [PySem.W.handedOut_of (handed_of rv)]
      exact wpAny_pure ⟨v, H', I3, rv, q3⟩
    | next => exact False.elim hq
    | brk => exact False.elim hq
    | cont => exact False.elim hq
end
end Ev
set_option Elab.async false
set_option linter.all false
set_option autoImplicit false
set_option maxRecDepth 100000
set_option maxHeartbeats 1000000
namespace Ev
open PySem PySem.Spec PyProof.Rows L2
/-- what the written part says of a class (for isinstance) -/
structure KitC (K : PySem.W.Frag) (C : Addr) : Prop where
  cl : Cls K C
  ha : PySem.W.findIn K (.ref C) "__class__" = some (some (.builtin "object.__class__"))
  hn : PySem.W.specialIn K (.builtin "object.__class__") "__get__" = some (some (.builtin "getset_descriptor.__get__"))
  htk : PySem.W.takesIn K (.builtin "object.__class__") = some true
  hm : PySem.W.mroIn K C (.type "object") = some true
  bo : ∀ n : String, n ∈ ["int", "bool", "str", "list", "tuple", "dict", "ValueError", "LookupError", "IndexError"] → PySem.W.kitOne K (.ref C) (.type n) = some false
/-- what the written part says of an error class (for isinstance) -/
structure KitE (K : PySem.W.Frag) (C : Addr) (an : List Nat) : Prop where
  cl : (PySem.W.clsIn K C).isSome = true
  ga : PySem.W.findIn K (.ref C) "__getattribute__" = some (some (.builtin "BaseException.__getattribute__"))
  gt : ∃ gt, PySem.W.findIn K (.ref C) "__getattr__" = some gt
  sub : PySem.W.subIn K (.ref C) (.type "BaseException") = some true
  ha : PySem.W.findIn K (.ref C) "__class__" = some (some (.builtin "object.__class__"))
  hn : PySem.W.specialIn K (.builtin "object.__class__") "__get__" = some (some (.builtin "getset_descriptor.__get__"))
  htk : PySem.W.takesIn K (.builtin "object.__class__") = some true
  hm : PySem.W.mroIn K C (.type "object") = some true
  bo : ∀ n : String, n ∈ ["int", "bool", "str", "list", "tuple", "dict"] → PySem.W.kitOne K (.ref C) (.type n) = some false
  bx : ∀ (i : Nat) (n : String), ["ValueError", "LookupError", "IndexError"][i]? = some n → PySem.W.kitOne K (.ref C) (.type n) = some (an.contains (1000 + i))
structure KitT (K : PySem.W.Frag) (C : Addr) : Prop where
  bo : ∀ n : String, n ∈ ["NoneType", "int", "bool", "str", "list", "tuple", "dict"] → PySem.W.kitOne K (.type n) (.ref C) = some false
/-- a method's call keeps the promise, whichever of the classes cs it is of -/
def MsOk (P : Program) (w : World) (K : PySem.W.Frag) (mg : Str → Option Value) (base : Heap) (k : Nat) (N : Nm) (G : Glob) (h : Nat) (m : Str) (cs : List Nat) (n : Nat) (ks : List Str) : Prop :=
  ∀ c, c ∈ cs → N.ok c → (∀ i, N.has c i → N.fld i ≠ m) ∧ Cls K (N.cls c) ∧ ∃ f, Meth K (N.cls c) m f ∧ CallOk P w K mg base k f (n + 1) ks (spOf N (G.fn h))
def TwoObj (cs : List Nat) (as : List Val) : Prop := ∃ f1 f2 c fs gs, as = [(f1, .obj c fs), (f2, .obj c gs)] ∧ c ∈ cs
def OneObj (cs : List Nat) (as : List Val) : Prop := ∃ f1 c fs, as = [(f1, .obj c fs)] ∧ c ∈ cs
/-- operators, properties, static methods -/
def OpsOk (P : Program) (w : World) (K : PySem.W.Frag) (mg : Str → Option Value) (base : Heap) (k : Nat) (N : Nm) (G : Glob) (h : Nat) (cs : List Nat) : OpK → Prop
  | .bin o => (∀ as Q X, G.fn h as Q X → TwoObj cs as) ∧ ∀ c, c ∈ cs → N.ok c → PySem.W.selfFirst K (N.cls c) = true ∧ ∃ f, PySem.W.findIn K (.ref (N.cls c)) (PySem.dunder o.info.2) = some (some (.ref f)) ∧ PySem.W.isFn K (.ref f) = true ∧ CallOk P w K mg base k f 2 [] (spOf N (G.fn h))
  | .eq => (∀ as Q X, G.fn h as Q X → TwoObj cs as ∧ G.fn h as (fun r o => Q r o ∧ ∃ b, r = (.imm, .bl b)) X) ∧ ∀ c, c ∈ cs → N.ok c → ∃ f, PySem.W.findIn K (.ref (N.cls c)) "__eq__" = some (some (.ref f)) ∧ PySem.W.isFn K (.ref f) = true ∧ CallOk P w K mg base k f 2 [] (spOf N (G.fn h))
  | .neg => (∀ as Q X, G.fn h as Q X → OneObj cs as) ∧ ∀ c, c ∈ cs → N.ok c → ∃ f, PySem.W.findIn K (.ref (N.cls c)) "__neg__" = some (some (.ref f)) ∧ PySem.W.isFn K (.ref f) = true ∧ CallOk P w K mg base k f 1 [] (spOf N (G.fn h))
  | .prop x => (∀ as Q X, G.fn h as Q X → OneObj cs as ∧ G.fn h as Q fun _ _ => False) ∧ ∃ j, j + 1 ≤ k ∧ ∀ c, c ∈ cs → N.ok c → Cls K (N.cls c) ∧ ∃ p g, PropOf K (N.cls c) x p g ∧ CallOk P w K mg base j g 1 [] (spOf N (G.fn h))
  | .stat x m n ks => ∃ Ca f, mg x = some (.ref Ca) ∧ StatOf K Ca m f ∧ CallOk P w K mg base k f n ks (spOf N (G.fn h))
/-- what a body's context gives -/
structure XC (cf : Cf) (C : Cn) (k : Nat) (X : Cx) : Prop where
  N : X.N = cf.N
  nd : cf.N.Nodup
  calm : X.calm = true
  K : X.K = C.N.K
  room : Room k X.A
  tk : Takes X C.W
  fns : ∀ h x n ks, cf.sh h = some (x, n, ks) → ∃ f, X.mg x = some (.ref f) ∧ PySem.W.keepIn X.K (.ref f) = true ∧ CallOk X.prog X.w X.K X.mg X.base k f n ks (spOf C.N (C.G.fn h))
  cst : ∀ g x d, cf.cn g = some x → C.G.cst g = some d → ∃ u v, X.mg x = some u ∧ RelV v u ∧ ∀ I H, Rep C.N I H d v
  blt : ∀ x ∈ bltNames, X.mg x = none
  gcd : cf.gcd = true → X.mg "gcd" = some (.builtin "math.gcd")
  kitc : ∀ c, C.N.ok c → KitC X.K (C.N.cls c)
  kite : ∀ c an, C.N.xok c an → KitE X.K (C.N.cls c) an
  fld : ∀ i n, cf.fl i = some n → FldOk C.N i n
  has : ∀ c i, C.G.has c i = true → C.N.has c i
  wK : X.w = C.N.w
  ms : ∀ h m cs n ks, cf.ms h = some (m, cs, n, ks) → MsOk X.prog X.w X.K X.mg X.base k C.N C.G h m cs n ks
  ok : ∀ h kd cs, cf.ok h = some (kd, cs) → OpsOk X.prog X.w X.K X.mg X.base k C.N C.G h cs kd
  cls : ∀ c x, cf.cl c = some x → X.mg x = some (.ref (C.N.cls c)) ∧ KitT X.K (C.N.cls c) ∧ (∀ c', C.N.ok c' → PySem.W.kitOne X.K (.ref (C.N.cls c')) (.ref (C.N.cls c)) = some (c == c')) ∧
    ∀ c' an, C.N.xok c' an → PySem.W.kitOne X.K (.ref (C.N.cls c')) (.ref (C.N.cls c)) = some (an.contains c)
def PeekL (N : Nm) (I : Addr → Prop) (H : Hp) : List D → List V → Prop
  | [], vs => vs = []
  | d :: ds, vs => ∃ v r, vs = v :: r ∧ Peek N I H d v ∧ PeekL N I H ds r
section
variable {cf : Cf} {C : Cn} {k : Nat} {X : Cx}
theorem opds_peek {Θ : Th} {I : Addr → Prop} {σ : L2.St} {τ : List V} {H : Hp} {ρ : Rho} {δ : List Val} (s : S0 C.N Θ I σ τ H ρ δ) : ∀ {l : List Opd} {n : Nat} {vs : List V} {ds : List D}, OpdsV σ τ δ n l vs → resolve ρ l = some ds → PeekL C.N I H ds vs
  | [], n, vs, ds, h, q => by
    have e : some [] = some ds := q
    cases e
    exact h
  | .v i :: l, n, vs, ds, ⟨v, r, e, hv, h⟩, q => by
    unfold resolve at q
    cases z : Opd.get ρ (.v i) with
    | none => rw [z] at q; cases q
    | some d =>
      rw [z] at q
      cases z2 : resolve ρ l with
      | none => rw [z2] at q; cases q
      | some es =>
        rw [z2] at q
        cases q
        have z' : (ρ.at i).map (·.2) = some d := z
        cases z3 : ρ.at i with
        | none => rw [z3] at z'; cases z'
        | some a =>
          rw [z3] at z'
          cases z'
          obtain ⟨u, hu, ru⟩ := s.slot z3
          rw [hv] at hu
          cases hu
          exact ⟨v, r, e, ru.peek, opds_peek s h z2⟩
  | .x a :: l, n, vs, ds, ⟨v, r, j, e, _, hv, ha, h⟩, q => by
    unfold resolve at q
    cases z2 : resolve ρ l with
    | none => rw [z2] at q; cases q
    | some es =>
      rw [z2] at q
      have q' : some (a.2 :: es) = some ds := q
      cases q'
      obtain ⟨u, hu, ru⟩ := s.hand ha
      rw [hv] at hu
      cases hu
      exact ⟨v, r, e, ru.peek, opds_peek s h z2⟩
theorem step_ok {N : Nm} {I I' : Addr → Prop} {H H' : Hp} {a : Val} {v : V} (st : Step N I H a v I' H') : okRes a := by
  induction st with
  | old _ => exact .inl rfl
  | tup _ _ => exact .inl rfl
  | own _ _ => exact .inr rfl
  | exc _ _ _ _ _ => exact .inl rfl
  | grow _ _ ih => exact ih
/-- an operation on operands: what it leaves goes to what follows -/
theorem op_os {f : Op} {os : Os} {σ : L2.St} {H : Hp} {Q : VK} {K : List V → Hp → Prop} (h : tE C (.op f os) σ H Q)
    (hK : ∀ I ds vs H2 (P : Val → Prop), PeekL C.N I H2 ds vs → opP f ds P → Then C.N I H2 P Q → K vs H2) : tOs C os σ H K := by
  obtain ⟨Θ, I, τ, ρ, δ, P, Xx, s, w, kk, x⟩ := h
  refine ⟨Θ, I, τ, ρ, δ, _, Xx, s, w, fun l ρ' τ' δ' vs H' I' s' ov ⟨ds, hr, hop⟩ => ?_, x⟩
  refine hK I' ds vs H' _ (opds_peek s' ov hr) hop fun a v I2 H2 st p => ?_
  have ok : okRes a := step_ok st
  exact kk a ρ' v H2 I2 ok ((s'.popN s.l2).step st) p
/-- an operation, its operands known -/
def tOpX (C : Cn) (f : Op) (os : Os) : TE := fun σ H Q => ∀ K : List V → Hp → Prop, (∀ I ds vs H2 (P : Val → Prop), PeekL C.N I H2 ds vs → opP f ds P → Then C.N I H2 P Q → K vs H2) → tOs C os σ H K
theorem op_x {f : Op} {os : Os} : ∀ σ H Q, tE C (.op f os) σ H Q → tOpX C f os σ H Q := fun _ _ _ h _ hK => op_os h hK
def isCmpOp : Op → Bool
  | .eq => true
  | .ne => true
  | .lt => true
  | .le => true
  | .gt => true
  | .ge => true
  | .isN => true
  | .notN => true
  | .in_ => true
  | .notin => true
  | .inS => true
  | _ => false
theorem opP_bl {f : Op} (hf : isCmpOp f = true) {ds : List D} {P : Val → Prop} (h : opP f ds P) : opP f ds fun r => P r ∧ ∃ b, r = (.imm, .bl b) := by
  cases f with
  | eq => match ds, h with | [a, b], h => exact ⟨h.1, h.2.1, h.2.2, _, rfl⟩
  | ne => match ds, h with | [a, b], h => exact ⟨h.1, h.2.1, h.2.2, _, rfl⟩
  | lt => match ds, h with | [.int i, .int j], h => exact ⟨h, _, rfl⟩
  | le => match ds, h with | [.int i, .int j], h => exact ⟨h, _, rfl⟩
  | gt => match ds, h with | [.int i, .int j], h => exact ⟨h, _, rfl⟩
  | ge => match ds, h with | [.int i, .int j], h => exact ⟨h, _, rfl⟩
  | isN =>
    match ds, h with
    | [a], h => cases a <;> exact ⟨h, _, rfl⟩
    | [], h => exact h.elim
    | a :: b :: r, h => cases a <;> exact h.elim
  | notN =>
    match ds, h with
    | [a], h => cases a <;> exact ⟨h, _, rfl⟩
    | [], h => exact h.elim
    | a :: b :: r, h => cases a <;> exact h.elim
  | in_ =>
    match ds, h with
    | [x, .lst xs], h => exact ⟨h.1, h.2.1, h.2.2, _, rfl⟩
    | [x, .tup xs], h => exact ⟨h.1, h.2.1, h.2.2, _, rfl⟩
  | notin =>
    match ds, h with
    | [x, .lst xs], h => exact ⟨h.1, h.2.1, h.2.2, _, rfl⟩
    | [x, .tup xs], h => exact ⟨h.1, h.2.1, h.2.2, _, rfl⟩
  | inS =>
    match ds, h with
    | [.str a, .str z], h =>
      obtain ⟨c, e, p⟩ := h
      exact ⟨c, e, p, _, rfl⟩
  | _ => cases hf
/-- a comparison as a test -/
theorem op_b {f : Op} (hf : isCmpOp f = true) {os : Os} : ∀ σ H Q, tB C (.t (.op f os)) σ H Q → tOpX C f os σ H (fun x H' => ∃ c, x = .bl c ∧ Q c H') := by
  intro σ H Q ⟨Θ, I, τ, ρ, δ, P, Xx, s, w, kk, x⟩ K hK
  refine ⟨Θ, I, τ, ρ, δ, _, Xx, s, w, fun l ρ' τ' δ' vs H' I' s' ov ⟨ds, hr, hop⟩ => ?_, x⟩
  refine hK I' ds vs H' _ (opds_peek s' ov hr) (opP_bl hf hop) fun a v I2 H2 st ⟨⟨c, e, p⟩, b, ea⟩ => ?_
  have s2 := (s'.popN s.l2).step st
  subst ea
  have e' : some b = some c := e
  cases e'
  have r := s2.r.rep (ρ'.length + δ.length) (.imm, .bl c) (by rw [snoc_map, ← List.append_assoc]; simp)
  obtain ⟨u, hu, ru⟩ := r
  have lu : (σ ++ (τ ++ [v]).map some)[ρ'.length + δ.length]? = some (some v) := by
    rw [snoc_map, ← List.append_assoc, ← s.l2, ← s2.l1]
    have e : σ.length + τ.length = (σ ++ τ.map some).length := by simp
    rw [e]
    simp
  rw [lu] at hu
  cases hu
  exact ⟨c, ru, kk c ρ' H2 I2 s2.pop p⟩
/-! ### operators -/
theorem peek2 {N : Nm} {I : Addr → Prop} {H : Hp} {d1 d2 : D} {v1 v2 : V} (h : PeekL N I H [d1, d2] [v1, v2]) : Peek N I H d1 v1 ∧ Peek N I H d2 v2 := by
  obtain ⟨v, r, e, p1, v', r', e', p2, _⟩ := h
  cases e
  cases e'
  exact ⟨p1, p2⟩
theorem peek_len {N : Nm} {I : Addr → Prop} {H : Hp} : ∀ {ds : List D} {vs : List V}, PeekL N I H ds vs → ds.length = vs.length
  | [], vs, h => by rw [show vs = [] from h]; rfl
  | d :: ds, vs, ⟨v, r, e, _, h⟩ => by rw [e, List.length_cons, List.length_cons, peek_len h]
theorem two_of {ds : List D} (h : ds.length = 2) : ∃ d1 d2, ds = [d1, d2] := by
  match ds, h with
  | [a, b], _ => exact ⟨a, b, rfl⟩
theorem one_of {ds : List D} (h : ds.length = 1) : ∃ d1, ds = [d1] := by
  match ds, h with
  | [a], _ => exact ⟨a, rfl⟩
/-- an operator's rule -/
structure BinX (X : Cx) (N : Nm) (f : Op) (g : Value → Value → Sem Value) (r : R2) : Prop where
  op : OpR X g r
  to : ∀ (I : Addr → Prop) (H : Hp) (P : Val → Prop) (Q : VK) (d1 d2 : D) (v1 v2 : V), opP f [d1, d2] P → Peek N I H d1 v1 → Peek N I H d2 v2 → Then N I H P Q → r v1 v2 H Q
theorem bin_ok (hK : X.K = C.N.K) {f : Op} {o : Operator} (h : binB f o = true) : ∃ r, BinX X C.N f (binaryOp o) r := by
  cases f <;> cases o <;> first
    | (cases h; done)
    | exact ⟨_, opr_add, fun I H P Q d1 d2 v1 v2 h p1 p2 q => by rw [hK]; exact ok_add h p1 p2 q⟩
    | exact ⟨_, op_sub, fun I H P Q d1 d2 v1 v2 h p1 p2 q => ok_sub h p1 p2 q⟩
    | exact ⟨_, opr_mul, fun I H P Q d1 d2 v1 v2 h p1 p2 q => ok_mul h p1 p2 q⟩
    | exact ⟨_, opr_fdiv, fun I H P Q d1 d2 v1 v2 h p1 p2 q => ok_fdiv h p1 p2 q⟩
    | exact ⟨_, op_modN, fun I H P Q d1 d2 v1 v2 h p1 p2 q => ok_mod h p1 p2 q⟩
    | exact ⟨_, opr_rep, fun I H P Q d1 d2 v1 v2 h p1 p2 q => ok_rep h p1 p2 q⟩
    | exact ⟨_, op_pow, fun I H P Q d1 d2 v1 v2 h p1 p2 q => ok_pow h p1 p2 q⟩
theorem cmp_ok (hK : X.K = C.N.K) (hu : X.A.units + 65 < cLine) {f : Op} {o : CmpOp} (h : cmpB f o = true) : ∃ r, BinX X C.N f (compareOp o) r := by
  have hu2 : X.A.units + 64 < cLine := by omega
  cases f <;> cases o <;> first
    | (cases h; done)
    | exact ⟨_, op_eqD hu2, fun I H P Q d1 d2 v1 v2 h p1 p2 q => by rw [hK]; exact ok_eq h p1 p2 q⟩
    | exact ⟨_, op_neD hu2, fun I H P Q d1 d2 v1 v2 h p1 p2 q => by rw [hK]; exact ok_ne h p1 p2 q⟩
    | exact ⟨_, op_in_sign, fun I H P Q d1 d2 v1 v2 h p1 p2 q => ok_inS h p1 p2 q⟩
    | exact ⟨_, op_lt, fun I H P Q d1 d2 v1 v2 h p1 p2 q => ok_cmp inv_lt h p1 p2 q⟩
    | exact ⟨_, op_le, fun I H P Q d1 d2 v1 v2 h p1 p2 q => ok_cmp inv_le h p1 p2 q⟩
    | exact ⟨_, op_gt, fun I H P Q d1 d2 v1 v2 h p1 p2 q => ok_cmp inv_gt h p1 p2 q⟩
    | exact ⟨_, op_ge, fun I H P Q d1 d2 v1 v2 h p1 p2 q => ok_cmp inv_ge h p1 p2 q⟩
    | exact ⟨_, opr_in hu, fun I H P Q d1 d2 v1 v2 h p1 p2 q => by rw [hK]; exact ok_in h p1 p2 q⟩
    | exact ⟨_, opr_notin hu, fun I H P Q d1 d2 v1 v2 h p1 p2 q => by rw [hK]; exact ok_notin h p1 p2 q⟩
/-- the two operands, then the rule -/
theorem bin_read {f : Op} {g : Value → Value → Sem Value} {r : R2} (b : BinX X C.N f g r) {os : Os} {ta tb : TE} (hr : ∀ σ H K, tOs C os σ H K → tAllN (flags os) [ta, tb] σ H K) (hn : noN os = true) (ma : MonoE ta) (mb : MonoE tb) :
    ∀ σ H Q, tOpX C f os σ H Q → tOp r ta tb σ H Q := by
  intro σ H Q h
  have h1 := hr σ H (fun vs H2 => match vs with
    | [x, y] => r x y H2 Q
    | _ => True) (h _ fun I ds vs H2 P pk hop th => by
      split
      · obtain ⟨d1, d2, rfl⟩ := two_of (peek_len pk)
        obtain ⟨p1, p2⟩ := peek2 pk
        exact b.to I H2 P Q d1 d2 _ _ hop p1 p2 th
      · trivial)
  have h2 := tAllN_all hn σ H _ (by
    intro t ht
    rcases List.mem_cons.mp ht with e | ht
    · rw [e]; exact ma
    · rw [List.mem_singleton.mp ht]; exact mb) h1
  exact h2
/-- one operand -/
theorem un_read {f : Op} {os : Os} {ta : TE} {r : V → Hp → VK → Prop} (hb : ∀ I H P Q d v, opP f [d] P → Peek C.N I H d v → Then C.N I H P Q → r v H Q)
    (hr : ∀ σ H K, tOs C os σ H K → tAllN (flags os) [ta] σ H K) (hn : noN os = true) (ma : MonoE ta) :
    ∀ σ H Q, tOpX C f os σ H Q → ta σ H fun x H1 => r x H1 Q := by
  intro σ H Q h
  have h1 := hr σ H (fun vs H2 => match vs with
    | [x] => r x H2 Q
    | _ => True) (h _ fun I ds vs H2 P pk hop th => by
      split
      · obtain ⟨d1, rfl⟩ := one_of (peek_len pk)
        obtain ⟨v, r', e, p1, _⟩ := pk
        cases e
        exact hb I H2 P Q d1 _ hop p1 th
      · trivial)
  have h2 := tAllN_all hn σ H _ (by
    intro t ht
    rw [List.mem_singleton.mp ht]; exact ma) h1
  exact h2
/-! ### built-in functions -/
theorem call_read {f : Op} {os : Os} {ts : List TE} {r : List V → Hp → VK → Prop} (hb : ∀ I H P Q ds vs, opP f ds P → PeekL C.N I H ds vs → Then C.N I H P Q → r vs H Q)
    (hr : ∀ σ H K, tOs C os σ H K → tAllN (flags os) ts σ H K) (hn : noN os = true) (m : ∀ t ∈ ts, MonoE t) : ∀ σ H Q, tOpX C f os σ H Q → tCB r (tAll ts) σ H Q := by
  intro σ H Q h
  exact tAllN_all hn σ H _ m (hr σ H (fun vs H2 => r vs H2 Q) (h _ fun I ds vs H2 P pk hop th => hb I H2 P Q ds vs hop pk th))
theorem peek1 {N : Nm} {I : Addr → Prop} {H : Hp} {d1 : D} {vs : List V} (h : PeekL N I H [d1] vs) : ∃ v1, vs = [v1] ∧ Peek N I H d1 v1 := by
  obtain ⟨v, r, e, p1, e2⟩ := h
  have e2 : r = [] := e2
  subst e2
  exact ⟨v, e, p1⟩
theorem peek2' {N : Nm} {I : Addr → Prop} {H : Hp} {d1 d2 : D} {vs : List V} (h : PeekL N I H [d1, d2] vs) : ∃ v1 v2, vs = [v1, v2] ∧ Peek N I H d1 v1 ∧ Peek N I H d2 v2 := by
  obtain ⟨v, r, e, p1, v', r', e', p2, e2⟩ := h
  have e2 : r' = [] := e2
  subst e2
  subst e'
  exact ⟨v, v', e, p1, p2⟩
theorem ar1 {f : Op} (hf : f = .len ∨ f = .abs ∨ f = .toInt ∨ f = .toList ∨ f = .toTuple ∨ f = .all ∨ f = .any ∨ f = .sum ∨ f = .toIntS ∨ f = .toStr) {ds : List D} {P : Val → Prop} (h : opP f ds P) : ∃ d, ds = [d] := by
  match ds with
  | [d] => exact ⟨d, rfl⟩
  | [] => rcases hf with rfl | rfl | rfl | rfl | rfl | rfl | rfl | rfl | rfl | rfl <;> exact h.elim
  | a :: b :: r => rcases hf with rfl | rfl | rfl | rfl | rfl | rfl | rfl | rfl | rfl | rfl <;> (cases a <;> exact h.elim)
theorem ar2 {f : Op} (hf : f = .max2 ∨ f = .min2 ∨ f = .gcd) {ds : List D} {P : Val → Prop} (h : opP f ds P) : ∃ d e, ds = [d, e] := by
  match ds with
  | [d, e] => exact ⟨d, e, rfl⟩
  | [] => rcases hf with rfl | rfl | rfl <;> exact h.elim
  | [a] => rcases hf with rfl | rfl | rfl <;> (cases a <;> exact h.elim)
  | a :: b :: c :: r => rcases hf with rfl | rfl | rfl <;> (cases a <;> cases b <;> exact h.elim)
end
end Ev
set_option Elab.async false
set_option linter.all false
set_option autoImplicit false
set_option maxRecDepth 100000
set_option maxHeartbeats 1000000
namespace Ev
open PySem PySem.Spec PyProof.Rows L2
/-! ### the lists behind a call -/
theorem at_put_ne : ∀ {ρ : Rho} {i k : Nat} {v : Option Val}, k ≠ i → (ρ.put i v).at k = ρ.at k
  | [], _, _, _, _ => rfl
  | x :: r, 0, 0, v, h => (h rfl).elim
  | x :: r, 0, k + 1, v, h => rfl
  | x :: r, i + 1, 0, v, h => rfl
  | x :: r, i + 1, k + 1, v, h => at_put_ne (ρ := r) (i := i) (k := k) fun e => h (by rw [e])
theorem at_put_eq : ∀ {ρ : Rho} {i : Nat} {v : Option Val}, i < ρ.length → (ρ.put i v).at i = v
  | [], i, v, h => by simp at h
  | x :: r, 0, v, h => rfl
  | x :: r, i + 1, v, h => at_put_eq (ρ := r) (i := i) (by simpa using h)
theorem nodup_cons {i : Nat} {is : List Nat} (h : nodupB (i :: is) = true) : i ∉ is ∧ nodupB is = true := by
  unfold nodupB at h
  simp only [Bool.and_eq_true, Bool.not_eq_true', List.contains_eq_mem, decide_eq_false_iff_not] at h
  exact h
theorem args_v {ρ : Rho} {i : Nat} {os : List Opd} {as : List Val} (h : argsOf ρ (.v i :: os) = some as) : ∃ f d as', ρ.at i = some (f, d) ∧ as = (argF f, d) :: as' ∧ argsOf ρ os = some as' := by
  unfold argsOf at h
  cases z : Opd.arg ρ (.v i) with
  | none => rw [z] at h; cases h
  | some b =>
    rw [z] at h
    cases z2 : argsOf ρ os with
    | none => rw [z2] at h; cases h
    | some as' =>
      rw [z2] at h
      cases h
      have z' : (ρ.at i).map (fun a => (argF a.1, a.2)) = some b := z
      cases z3 : ρ.at i with
      | none => rw [z3] at z'; cases z'
      | some a => rw [z3] at z'; cases z'; exact ⟨a.1, a.2, as', rfl, rfl, rfl⟩
theorem args_x {ρ : Rho} {a : Val} {os : List Opd} {as : List Val} (h : argsOf ρ (.x a :: os) = some as) : ∃ as', as = (argF a.1, a.2) :: as' ∧ argsOf ρ os = some as' := by
  unfold argsOf at h
  cases z2 : argsOf ρ os with
  | none => rw [z2] at h; cases h
  | some as' =>
    rw [z2] at h
    have h' : some ((argF a.1, a.2) :: as') = some as := h
    cases h'
    exact ⟨as', rfl, rfl⟩
theorem outs_par {d : D} {as : List Val} {e : Rho} {outs : List Val} (h : outsOf ((.par, d) :: as) e = some outs) : ∃ o r e', outs = o :: r ∧ (o.1 = .par ∨ o.1 = .parl) ∧ outsOf as e' = some r := by
  match e, h with
  | some (.par, d1) :: e, h =>
    have h' : (outsOf as e).map ((.par, d1) :: ·) = some outs := h
    cases q : outsOf as e with
    | none => rw [q] at h'; cases h'
    | some r => rw [q] at h'; cases h'; exact ⟨_, r, e, rfl, .inl rfl, q⟩
  | some (.parl, d1) :: e, h =>
    have h' : (outsOf as e).map ((.parl, d1) :: ·) = some outs := h
    cases q : outsOf as e with
    | none => rw [q] at h'; cases h'
    | some r => rw [q] at h'; cases h'; exact ⟨_, r, e, rfl, .inr rfl, q⟩
  | [], h => simp [outsOf] at h
  | none :: e, h => simp [outsOf] at h
  | some (.imm, _) :: e, h => simp [outsOf] at h
  | some (.own, _) :: e, h => simp [outsOf] at h
theorem outs_imm {d : D} {as : List Val} {e : Rho} {outs : List Val} (h : outsOf ((.imm, d) :: as) e = some outs) : ∃ r e', outs = (.imm, d) :: r ∧ outsOf as e' = some r := by
  match e, h with
  | x :: e, h =>
    have h' : (outsOf as e).map ((.imm, d) :: ·) = some outs := h
    cases q : outsOf as e with
    | none => rw [q] at h'; cases h'
    | some r => rw [q] at h'; cases h'; exact ⟨r, e, rfl, q⟩
  | [], h => simp [outsOf] at h
theorem putOuts_x (ρ : Rho) (a : Val) (os : List Opd) (o : Val) (r : List Val) : putOuts ρ (.x a :: os) (o :: r) = putOuts ρ os r := rfl
theorem putOuts_imm (ρ : Rho) (i : Nat) (os : List Opd) (d : D) (r : List Val) : putOuts ρ (.v i :: os) ((.imm, d) :: r) = putOuts ρ os r := rfl
theorem putOuts_v {ρ : Rho} {i : Nat} {os : List Opd} {o : Val} {r : List Val} {f : Fl} {d : D} (h : ρ.at i = some (f, d)) (ho : o.1 = .par ∨ o.1 = .parl) : putOuts ρ (.v i :: os) (o :: r) = putOuts (ρ.put i (some (backF f o.1, o.2))) os r := by
  obtain ⟨o1, o2⟩ := o
  rcases ho with ho | ho
  · have ho : o1 = .par := ho
    subst ho
    show (match ρ.at i with | some (o, _) => putOuts (ρ.put i (some (o, o2))) os r | none => ρ) = _
    rw [h]
    rfl
  · have ho : o1 = .parl := ho
    subst ho
    show (match ρ.at i with | some (o, _) => putOuts (ρ.put i (some (leakF o, o2))) os r | none => ρ) = _
    rw [h]
    rfl
theorem ownIx_own {ρ : Rho} {i : Nat} {os : List Opd} {f : Fl} {d : D} (h : ρ.at i = some (f, d)) (q : ownF f = true) : ownIx ρ (.v i :: os) = i :: ownIx ρ os := by
  show (match ρ.at i with | some (.own, _) => i :: ownIx ρ os | some (.par, _) => i :: ownIx ρ os | _ => ownIx ρ os) = _
  rw [h]
  cases f <;> first | rfl | cases q
theorem ownIx_imm {ρ : Rho} {i : Nat} {os : List Opd} {f : Fl} {d : D} (h : ρ.at i = some (f, d)) (q : ownF f = false) : ownIx ρ (.v i :: os) = ownIx ρ os := by
  show (match ρ.at i with | some (.own, _) => i :: ownIx ρ os | some (.par, _) => i :: ownIx ρ os | _ => ownIx ρ os) = _
  rw [h]
  cases f <;> first | rfl | cases q
theorem putOuts_at {ρ0 : Rho} : ∀ (l : List Opd) (as outs : List Val) (ρ ec : Rho), argsOf ρ0 l = some as → outsOf as ec = some outs → nodupB (ownIx ρ0 l) = true → (∀ i ∈ ownIx ρ0 l, ρ.at i = ρ0.at i) →
    (putOuts ρ l outs).length = ρ.length ∧ ∀ ix : Nat, (ix ∉ ownIx ρ0 l → (putOuts ρ l outs).at ix = ρ.at ix) ∧
      (ix ∈ ownIx ρ0 l → ∃ (j : Nat) (f : Fl) (d : D) (o : Val), l[j]? = some (.v ix) ∧ ρ0.at ix = some (f, d) ∧ ownF f = true ∧ outs[j]? = some o ∧ (putOuts ρ l outs).at ix = some (backF f o.1, o.2))
  | [], as, outs, ρ, ec, ha, ho, nd, hk => by
    have e : putOuts ρ [] outs = ρ := by cases outs <;> rfl
    rw [e]
    exact ⟨rfl, fun ix => ⟨fun _ => rfl, fun h => by simp [ownIx] at h⟩⟩
  | .x a :: os, as, outs, ρ, ec, ha, ho, nd, hk => by
    obtain ⟨as', rfl, ha'⟩ := args_x ha
    obtain ⟨o, r, e', rfl, ho'⟩ : ∃ o r e', outs = o :: r ∧ outsOf as' e' = some r := by
      cases q : ownF a.1 with
      | true => rw [argF_par q] at ho; obtain ⟨o, r, e', h1, _, h2⟩ := outs_par ho; exact ⟨o, r, e', h1, h2⟩
      | false => rw [argF_imm q] at ho; obtain ⟨r, e', h1, h2⟩ := outs_imm ho; exact ⟨_, r, e', h1, h2⟩
    rw [putOuts_x]
    obtain ⟨h1, h2⟩ := putOuts_at os as' r ρ e' ha' ho' nd hk
    refine ⟨h1, fun ix => ⟨(h2 ix).1, fun h => ?_⟩⟩
    obtain ⟨j, f, d, o, a1, a2, a3, a4, a5⟩ := (h2 ix).2 h
    exact ⟨j + 1, f, d, o, a1, a2, a3, a4, a5⟩
  | .v i :: os, as, outs, ρ, ec, ha, ho, nd, hk => by
    obtain ⟨f, d, as', hi, rfl, ha'⟩ := args_v ha
    cases q : ownF f with
    | false =>
      rw [argF_imm q] at ho
      obtain ⟨r, e', rfl, ho'⟩ := outs_imm ho
      rw [putOuts_imm]
      rw [ownIx_imm hi q] at nd hk ⊢
      obtain ⟨h1, h2⟩ := putOuts_at os as' r ρ e' ha' ho' nd hk
      refine ⟨h1, fun ix => ⟨(h2 ix).1, fun h => ?_⟩⟩
      obtain ⟨j, f, d, o, a1, a2, a3, a4, a5⟩ := (h2 ix).2 h
      exact ⟨j + 1, f, d, o, a1, a2, a3, a4, a5⟩
    | true =>
      rw [argF_par q] at ho
      obtain ⟨o, r, e', rfl, oo, ho'⟩ := outs_par ho
      rw [ownIx_own hi q] at nd hk ⊢
      obtain ⟨n1, n2⟩ := nodup_cons nd
      have hρ : ρ.at i = some (f, d) := (hk i (List.mem_cons_self ..)).trans hi
      rw [putOuts_v hρ oo]
      obtain ⟨h1, h2⟩ := putOuts_at os as' r (ρ.put i (some (backF f o.1, o.2))) e' ha' ho' n2 fun k hk' => by
        rw [at_put_ne (fun (e : k = i) => n1 (e ▸ hk'))]
        exact hk k (List.mem_cons_of_mem _ hk')
      refine ⟨h1.trans (put_len ..), fun ix => ⟨fun h => ?_, fun h => ?_⟩⟩
      · rw [List.mem_cons, not_or] at h
        rw [(h2 ix).1 h.2, at_put_ne h.1]
      · by_cases e : ix = i
        · subst e
          refine ⟨0, f, d, o, rfl, hi, q, rfl, ?_⟩
          rw [(h2 ix).1 n1, at_put_eq (at_lt hρ)]
        · obtain ⟨j, f, d, o, a1, a2, a3, a4, a5⟩ := (h2 ix).2 ((List.mem_cons.mp h).resolve_left e)
          exact ⟨j + 1, f, d, o, a1, a2, a3, a4, a5⟩
theorem mem_own {ρ : Rho} : ∀ {l : List Opd} {j i : Nat} {f : Fl} {d : D}, l[j]? = some (.v i) → ρ.at i = some (f, d) → ownF f = true → i ∈ ownIx ρ l
  | [], j, i, f, d, h, _, _ => by simp at h
  | o :: os, 0, i, f, d, h, hi, q => by
    have e : o = .v i := Option.some.inj h
    subst e
    rw [ownIx_own hi q]
    exact List.mem_cons_self ..
  | .x a :: os, j + 1, i, f, d, h, hi, q => mem_own (l := os) (j := j) h hi q
  | .v k :: os, j + 1, i, f, d, h, hi, q => by
    have ih := mem_own (l := os) (j := j) h hi q
    show i ∈ (match ρ.at k with | some (.own, _) => k :: ownIx ρ os | some (.par, _) => k :: ownIx ρ os | _ => ownIx ρ os)
    split
    · exact List.mem_cons_of_mem _ ih
    · exact List.mem_cons_of_mem _ ih
    · exact ih
/-- where an argument stands -/
def Where (ρ : Rho) (n : Nat) (o : Opd) (ix : Nat) : Prop := match o with
  | .v i => ix = i ∧ i < ρ.length
  | .x _ => ρ.length + n ≤ ix
section
variable {N : Nm} {Θ : Th} {I I' : Addr → Prop} {σ : L2.St} {τ τ' : List V} {H H' : Hp} {ρ : Rho} {δ δ' : List Val}
theorem args_at (s : S0 N Θ I σ τ H ρ δ) : ∀ {l : List Opd} {n : Nat} {vs : List V} {as : List Val}, OpdsV σ τ δ n l vs → argsOf ρ l = some as → nodupB (ownIx ρ l) = true →
    ∃ js, ArgsAt (σ ++ τ.map some) (ρ ++ δ.map some) js as vs ∧ js.length = l.length ∧ ∀ (j ix : Nat) (o : Opd), js[j]? = some ix → l[j]? = some o → Where ρ n o ix
  | [], n, vs, as, h, ha, nd => by
    have h : vs = [] := h
    have e : some [] = some as := ha
    cases e
    subst h
    exact ⟨[], ⟨rfl, rfl, fun j ix h => by simp at h, fun j k ix f d h => by simp at h⟩, rfl, fun j ix o h => by simp at h⟩
  | .v i :: l, n, vs, as, ⟨v, r, e, hv, h⟩, ha, nd => by
    subst e
    obtain ⟨f, d, as', hi, rfl, ha'⟩ := args_v ha
    have nd' : nodupB (ownIx ρ l) = true := by
      cases q : ownF f with
      | true => rw [ownIx_own hi q] at nd; exact (nodup_cons nd).2
      | false => rw [ownIx_imm hi q] at nd; exact nd
    obtain ⟨js, A, hl, hw⟩ := args_at s h ha' nd'
    have li := at_lt hi
    refine ⟨i :: js, ⟨by simp [A.la], by simp [A.lv], fun j ix hj => ?_, fun j k ix g d' hj hk he ho => ?_⟩, by simp [hl], fun j ix o hj ho => ?_⟩
    · cases j with
      | zero =>
        have e : i = ix := Option.some.inj hj
        subst e
        refine ⟨f, d, v, get_app (at_get.mp hi), rfl, get_app hv, rfl⟩
      | succ j => exact A.at_ j ix hj
    · have key : ∀ (k : Nat), js[k]? = some i → ownF f = true → False := fun k hk q => by
        have lk : k < l.length := by rw [← hl]; exact (List.getElem?_eq_some_iff.mp hk).1
        have w := hw k i l[k] hk (List.getElem?_eq_getElem lk)
        cases z : l[k] with
        | x a => rw [z] at w; have w : ρ.length + n ≤ i := w; omega
        | v i' =>
          rw [z] at w
          have w : i = i' ∧ _ := w
          have e := w.1
          subst e
          rw [ownIx_own hi q] at nd
          exact (nodup_cons nd).1 (mem_own (j := k) (by rw [List.getElem?_eq_getElem lk, z]) hi q)
      have fq : ix = i → ownF f = true := fun e => by
        subst e
        rw [get_app (at_get.mp hi)] at he
        cases he
        exact ho
      cases j with
      | zero =>
        have e : i = ix := Option.some.inj hj
        cases k with
        | zero => rfl
        | succ k => subst e; exact (key k hk (fq rfl)).elim
      | succ j =>
        cases k with
        | zero =>
          have e : i = ix := Option.some.inj hk
          subst e
          exact (key j hj (fq rfl)).elim
        | succ k => rw [A.inj j k ix g d' hj hk he ho]
    · cases j with
      | zero =>
        have e : i = ix := Option.some.inj hj
        have e2 : Opd.v i = o := Option.some.inj ho
        subst e e2
        exact ⟨rfl, li⟩
      | succ j => exact hw j ix o hj ho
  | .x a :: l, n, vs, as, ⟨v, r, k0, e, hn, hv, hd, h⟩, ha, nd => by
    subst e
    obtain ⟨as', rfl, ha'⟩ := args_x ha
    obtain ⟨js, A, hl, hw⟩ := args_at s h ha' nd
    have e1 : (ρ ++ δ.map some)[ρ.length + k0]? = some (some a) := by
      rw [List.getElem?_append_right (by omega), Nat.add_sub_cancel_left, List.getElem?_map, hd]
      rfl
    have e2 : (σ ++ τ.map some)[ρ.length + k0]? = some (some v) := by
      rw [← s.l1, List.getElem?_append_right (by omega), Nat.add_sub_cancel_left, List.getElem?_map, hv]
      rfl
    have key : ∀ (k : Nat), js[k]? = some (ρ.length + k0) → False := fun k hk => by
      have lk : k < l.length := by rw [← hl]; exact (List.getElem?_eq_some_iff.mp hk).1
      have w := hw k _ l[k] hk (List.getElem?_eq_getElem lk)
      cases z : l[k] with
      | x a => rw [z] at w; have w : ρ.length + (k0 + 1) ≤ ρ.length + k0 := w; omega
      | v i' =>
        rw [z] at w
        have w : ρ.length + k0 = i' ∧ i' < ρ.length := w
        omega
    refine ⟨(ρ.length + k0) :: js, ⟨by simp [A.la], by simp [A.lv], fun j ix hj => ?_, fun j k ix g d' hj hk he ho => ?_⟩, by simp [hl], fun j ix o hj ho => ?_⟩
    · cases j with
      | zero =>
        have e : ρ.length + k0 = ix := Option.some.inj hj
        subst e
        exact ⟨a.1, a.2, v, e1, rfl, e2, rfl⟩
      | succ j => exact A.at_ j ix hj
    · cases j with
      | zero =>
        have e : ρ.length + k0 = ix := Option.some.inj hj
        cases k with
        | zero => rfl
        | succ k => subst e; exact (key k hk).elim
      | succ j =>
        cases k with
        | zero =>
          have e : ρ.length + k0 = ix := Option.some.inj hk
          subst e
          exact (key j hj).elim
        | succ k => rw [A.inj j k ix g d' hj hk he ho]
    · cases j with
      | zero =>
        have e : ρ.length + k0 = ix := Option.some.inj hj
        have e2 : Opd.x a = o := Option.some.inj ho
        subst e e2
        show ρ.length + n ≤ ρ.length + k0
        omega
      | succ j =>
        have w := hw j ix o hj ho
        cases o with
        | v i => exact w
        | x a => have w : ρ.length + (k0 + 1) ≤ ix := w; show ρ.length + n ≤ ix; omega
end
end Ev
set_option Elab.async false
set_option linter.all false
set_option autoImplicit false
set_option maxRecDepth 100000
set_option maxHeartbeats 1000000
namespace Ev
open PySem PySem.Spec PyProof.Rows L2
section
variable {N : Nm} {Θ : Th} {I I' : Addr → Prop} {σ : L2.St} {τ τ' : List V} {H H' : Hp} {ρ : Rho} {δ δ' : List Val}
/-- the state behind a call, without its value -/
theorem S0.back0 (s : S0 N Θ I σ (τ ++ τ') H ρ (δ ++ δ')) (l2 : τ.length = δ.length) {l : List Opd} {vs : List V} {as outs : List Val} {js : List Nat} {wc : List (Option V)} {ec : Rho}
    (A : ArgsAt (σ ++ (τ ++ τ').map some) (ρ ++ (δ ++ δ').map some) js as vs) (hl : js.length = l.length) (hw : ∀ (j ix : Nat) (o : Opd), js[j]? = some ix → l[j]? = some o → Where ρ τ.length o ix) (ha : argsOf ρ l = some as) (nd : nodupB (ownIx ρ l) = true)
    (rc : R N (thOf H I as vs) I' wc H' ec) (ho : outsOf as ec = some outs) :
    R N Θ I' (σ ++ τ.map some) H' (putOuts ρ l outs ++ δ.map some) ∧ (∀ (ix : Nat) (a : Val), (putOuts ρ l outs ++ δ.map some)[ix]? = some (some a) → (σ ++ τ.map some)[ix]? = (σ ++ (τ ++ τ').map some)[ix]? ∧ ∃ b : Val, (ρ ++ (δ ++ δ').map some)[ix]? = some (some b) ∧ (ownF a.1 = true → ownF b.1 = true)) := by
  obtain ⟨pl, pa⟩ := putOuts_at l as outs ρ ec ha ho nd fun _ _ => rfl
  -- the place of a list that was handed in
  have jx : ∀ (j ix : Nat), l[j]? = some (.v ix) → js[j]? = some ix := fun j ix h => by
    have lj : j < js.length := by rw [hl]; exact (List.getElem?_eq_some_iff.mp h).1
    have w := hw j js[j] (.v ix) (List.getElem?_eq_getElem lj) h
    have w : js[j] = ix ∧ _ := w
    rw [List.getElem?_eq_getElem lj, w.1]
  have xj : ∀ (j ix : Nat), js[j]? = some ix → ix < ρ.length + τ.length → l[j]? = some (.v ix) := fun j ix h hlt => by
    have lj : j < l.length := by rw [← hl]; exact (List.getElem?_eq_some_iff.mp h).1
    have w := hw j ix l[j] h (List.getElem?_eq_getElem lj)
    rw [List.getElem?_eq_getElem lj]
    cases z : l[j] with
    | v i => rw [z] at w; have w : ix = i ∧ _ := w; rw [w.1]
    | x a => rw [z] at w; have w : ρ.length + τ.length ≤ ix := w; omega
  -- what the new state holds
  have key : ∀ (ix : Nat) (a : Val), (putOuts ρ l outs ++ δ.map some)[ix]? = some (some a) → ix < ρ.length + τ.length ∧ ((∃ (j : Nat) (f : Fl) (d : D) (o : Val), js[j]? = some ix ∧ (ρ ++ (δ ++ δ').map some)[ix]? = some (some (f, d)) ∧ ownF f = true ∧ outs[j]? = some o ∧ a = (backF f o.1, o.2)) ∨
      ((ρ ++ (δ ++ δ').map some)[ix]? = some (some a) ∧ (ownF a.1 = true → ∀ j : Nat, js[j]? ≠ some ix))) := fun ix a h => by
    by_cases c : ix < ρ.length
    · rw [app_get (by omega)] at h
      have h' := at_get.mpr h
      refine ⟨by omega, ?_⟩
      by_cases m : ix ∈ ownIx ρ l
      · obtain ⟨j, f, d, o, a1, a2, a3, a4, a5⟩ := (pa ix).2 m
        rw [a5] at h'
        cases h'
        exact .inl ⟨j, f, d, o, jx j ix a1, get_app (at_get.mp a2), a3, a4, rfl⟩
      · rw [(pa ix).1 m] at h'
        refine .inr ⟨get_app (at_get.mp h'), fun ow j hj => ?_⟩
        exact m (mem_own (xj j ix hj (by omega)) (f := a.1) (d := a.2) h' ow)
    · rw [List.getElem?_append_right (by omega), pl] at h
      have lt : ix - ρ.length < δ.length := by
        have := (List.getElem?_eq_some_iff.mp h).1
        simpa using this
      refine ⟨by omega, .inr ⟨?_, fun ow j hj => ?_⟩⟩
      · rw [List.getElem?_append_right (by omega), List.map_append]
        exact get_app h
      · have z := xj j ix hj (by omega)
        have w := hw j ix _ hj z
        have w : ix = ix ∧ ix < ρ.length := w
        omega
  have hww : ∀ ix : Nat, ix < ρ.length + τ.length → (σ ++ τ.map some)[ix]? = (σ ++ (τ ++ τ').map some)[ix]? := fun ix h => by
    rw [List.map_append, ← List.append_assoc]
    exact (app_get (by simp [s.l1]; omega)).symm
  refine ⟨R.back s.r A rc ho (fun ix a h => hww ix (key ix a h).1) (fun ix a h => (key ix a h).2) fun i p hp => ?_, fun ix a h => ⟨hww ix (key ix a h).1, ?_⟩⟩
  · obtain ⟨w1, b, e1, e2⟩ := s.r.pin i p hp
    have li : i < ρ.length := by
      have := (List.getElem?_eq_some_iff.mp hp).1
      have := s.lp
      omega
    rw [app_get (by omega)] at e1
    have hb := at_get.mpr e1
    refine ⟨by rw [hww i (by omega)]; exact w1, ?_⟩
    rw [app_get (by omega)]
    by_cases m : i ∈ ownIx ρ l
    · obtain ⟨j, f, d, o, a1, a2, a3, a4, a5⟩ := (pa i).2 m
      rw [hb] at a2
      cases a2
      refine ⟨_, at_get.mp a5, ?_⟩
      have hf : f = .par := by
        rcases e2 with e2 | e2
        · exact e2
        · have e3 : f = .parl := e2.1
          rw [e3] at a3
          cases a3
      subst hf
      -- what came back
      have aj := jx j i a1
      obtain ⟨f', d', v, b1, b2, b3, b4⟩ := A.at_ j i aj
      rw [get_app e1] at b1
      cases b1
      rw [w1] at b3
      cases b3
      have pj := ps_of b2 b4
      obtain ⟨c1, c, c2, c3⟩ := rc.pin j p pj
      obtain ⟨o', eo, ee, oo⟩ := outs_get ho b2
      rw [a4] at eo
      cases eo
      rw [ee] at c2
      cases c2
      rcases c3 with c3 | c3
      · left
        show backF .par o.1 = .par
        rw [c3]
        rfl
      · right
        refine ⟨?_, c3.2⟩
        show backF .par o.1 = .parl
        rw [c3.1]
        rfl
    · refine ⟨b, ?_, ?_⟩
      · exact at_get.mp ((pa i).1 m ▸ hb)
      · rcases e2 with e2 | e2
        · exact .inl e2
        · exact .inr ⟨e2.1, rc.inc p e2.2⟩
  · rcases (key ix a h).2 with ⟨j, f, d, o, _, e1, e2, _, _⟩ | ⟨e1, _⟩
    · exact ⟨_, e1, fun _ => e2⟩
    · exact ⟨_, e1, fun z => z⟩
theorem S0.backX (s : S0 N Θ I σ (τ ++ τ') H ρ (δ ++ δ')) (l2 : τ.length = δ.length) {l : List Opd} {vs : List V} {as outs : List Val} {js : List Nat} {wc : List (Option V)} {ec : Rho}
    (A : ArgsAt (σ ++ (τ ++ τ').map some) (ρ ++ (δ ++ δ').map some) js as vs) (hl : js.length = l.length) (hw : ∀ (j ix : Nat) (o : Opd), js[j]? = some ix → l[j]? = some o → Where ρ τ.length o ix) (ha : argsOf ρ l = some as) (nd : nodupB (ownIx ρ l) = true)
    (rc : R N (thOf H I as vs) I' wc H' ec) (ho : outsOf as ec = some outs) : S0 N Θ I' σ τ H' (putOuts ρ l outs) δ := by
  obtain ⟨pl, _⟩ := putOuts_at l as outs ρ ec ha ho nd fun _ _ => rfl
  exact ⟨(s.back0 l2 A hl hw ha nd rc ho).1, by rw [pl]; exact s.l1, l2, by rw [pl]; exact s.lp⟩
theorem S0.backR (s : S0 N Θ I σ (τ ++ τ') H ρ (δ ++ δ')) (l2 : τ.length = δ.length) {l : List Opd} {vs : List V} {as outs : List Val} {js : List Nat} {wc : List (Option V)} {ec : Rho} {v : V} {r : Val}
    (A : ArgsAt (σ ++ (τ ++ τ').map some) (ρ ++ (δ ++ δ').map some) js as vs) (hl : js.length = l.length) (hw : ∀ (j ix : Nat) (o : Opd), js[j]? = some ix → l[j]? = some o → Where ρ τ.length o ix) (ha : argsOf ρ l = some as) (nd : nodupB (ownIx ρ l) = true)
    (rc : R N (thOf H I as vs) I' (wc ++ [some v]) H' (ec ++ [some r])) (hlc : wc.length = ec.length) (hl2 : as.length ≤ ec.length) (ho : outsOf as ec = some outs) (ok : okRes r) : S0 N Θ I' σ (τ ++ [v]) H' (putOuts ρ l outs) (δ ++ [r]) := by
  obtain ⟨pl, _⟩ := putOuts_at l as outs ρ ec ha ho nd fun _ _ => rfl
  have lv : vs.length = as.length := A.lv.trans A.la.symm
  have ps : (psOf as vs).length ≤ ec.length := by rw [ps_len lv]; exact hl2
  have rc0 : R N (thOf H I as vs) I' wc H' ec := rc.pop hlc ps
  have s1 := s.backX l2 A hl hw ha nd rc0 ho
  obtain ⟨_, b2⟩ := s.back0 l2 A hl hw ha nd rc0 ho
  refine ⟨?_, s1.l1, by simp [l2], s1.lp⟩
  rw [snoc_map, snoc_map, ← List.append_assoc, ← List.append_assoc]
  exact R.backV s.r A rc hlc hl2 ho s1.ll lv s1.r (fun ix a h => (b2 ix a h).1) (fun ix a h => (b2 ix a h).2) ok
end
/-- f(..), read -/
theorem callx_read {C : Cn} {h : Nat} {os : Os} {ts1 ts2 : List TE} (hr : ∀ σ H K, tOs C os σ H K → tAllN (flags os) (ts1 ++ ts2) σ H K) (hn : noN os = true) (m1 : ∀ t ∈ ts1, MonoE t) (m2 : ∀ t ∈ ts2, MonoE t) :
    ∀ σ H Q, tE C (.call h os) σ H Q → tCallX ts1.length ts2.length (spOf C.N (C.G.fn h)) C.W (tAll ts1) (tAll ts2) σ H Q := by
  intro σ H Q hh
  have m : ∀ t ∈ ts1 ++ ts2, MonoE t := fun t ht => (List.mem_append.mp ht).elim (m1 t) (m2 t)
  refine tAll_app m1 m2 σ H _ (tAllN_all hn σ H (fun vs H2 => spOf C.N (C.G.fn h) vs H2 Q fun cls d H' => C.W cls d σ H') m (hr σ H _ ?_))
  obtain ⟨Θ, I, τ, ρ, δ, P, Xx, s, w, kk, x⟩ := hh
  refine ⟨Θ, I, τ, ρ, δ, _, Xx, s, w, fun l ρ' τ' δ' vs H' I' s' ov ⟨as, ha, nd, hf⟩ => ?_, x⟩
  obtain ⟨js, A, hl, hw⟩ := args_at s' ov ha nd
  refine ⟨I', as, _, _, s'.r.args A, A.lv.trans A.la.symm, ?_, hf, fun r outs p v H2 I2 wc ec ok rc hlc hl2 ho => ?_, fun y outs p cls d H2 I2 wc ec rc hlc hl2 ho rx => ?_⟩
  · intro a ma
    obtain ⟨j, hj⟩ := List.getElem?_of_mem ma
    have lj : j < js.length := by rw [← A.la]; exact (List.getElem?_eq_some_iff.mp hj).1
    obtain ⟨f, d, v, e1, e2, _, _⟩ := A.at_ j js[j] (List.getElem?_eq_getElem lj)
    rw [hj] at e2
    cases e2
    show argF f = .imm ∨ argF f = .par
    cases f <;> first | exact .inl rfl | exact .inr rfl
  · exact kk r _ v H2 I2 ok (s'.backR s.l2 A hl hw ha nd rc hlc hl2 ho ok) p
  · exact x y _ cls d H2 I2 (s'.backX s.l2 A hl hw ha nd rc ho) rx p
end Ev
set_option Elab.async false
set_option linter.all false
set_option autoImplicit false
set_option maxRecDepth 100000
set_option maxHeartbeats 1000000
namespace Ev
open PySem PySem.Spec PyProof.Rows L2
/-! ### the state, moved about -/
section
variable {N : Nm} {Θ : Th} {I I' : Addr → Prop} {w w' : List (Option V)} {H H' : Hp} {e e' : Rho}
theorem R.map (r : R N Θ I w H e) (φ : Nat → Nat) (h : ∀ (j : Nat) (a : Val), e'[j]? = some (some a) → e[φ j]? = some (some a) ∧ w'[j]? = w[φ j]?)
    (inj : ∀ (i j : Nat) (a b : Val), e'[i]? = some (some a) → e'[j]? = some (some b) → φ i = φ j → i = j) (hp : ∀ (i : Nat) (p : Addr), Θ.ps[i]? = some (some p) → e'[i]? = e[i]? ∧ w'[i]? = w[i]?) : R N Θ I w' H e' where
  rep := fun i a q => by
    obtain ⟨h1, h2⟩ := h i a q
    rw [h2]
    exact r.rep _ a h1
  dis := fun i j p a b q1 q2 o1 o2 w1 w2 => by
    obtain ⟨a1, a2⟩ := h i a q1
    obtain ⟨b1, b2⟩ := h j b q2
    rw [a2] at w1
    rw [b2] at w2
    exact inj i j a b q1 q2 (r.dis _ _ p a b a1 b1 o1 o2 w1 w2)
  keep := r.keep
  dom := r.dom
  inc := r.inc
  bnd := r.bnd
  there := r.there
  wr := fun i a p q o w1 => by
    obtain ⟨h1, h2⟩ := h i a q
    rw [h2] at w1
    exact r.wr _ a p h1 o w1
  pin := fun i p q => by
    obtain ⟨a, b⟩ := r.pin i p q
    obtain ⟨c, d⟩ := hp i p q
    rw [c, d]
    exact ⟨a, b⟩
end
def Same (ixs : List Nat) (σ σ' : L2.St) : Prop := ∀ vs : List Nat, (∀ i ∈ ixs, i ∈ vs) → wipe σ' vs = wipe σ vs
theorem wipe_get : ∀ {vs : List Nat} {σ : L2.St} {i : Nat}, i ∉ vs → (wipe σ vs)[i]? = σ[i]?
  | [], σ, i, _ => rfl
  | v :: vs, σ, i, h => by
    rw [List.mem_cons, not_or] at h
    show ((wipe σ vs).set v none)[i]? = _
    rw [List.getElem?_set_ne (Ne.symm h.1)]
    exact wipe_get h.2
theorem wipe_in : ∀ {vs : List Nat} {σ : L2.St} {i : Nat}, i ∈ vs → i < σ.length → (wipe σ vs)[i]? = some none
  | [], σ, i, h, _ => by simp at h
  | v :: vs, σ, i, h, l => by
    show ((wipe σ vs).set v none)[i]? = _
    by_cases e : v = i
    · subst e
      rw [List.getElem?_set_self (by rw [wipe_length]; exact l)]
    · rw [List.getElem?_set_ne e]
      rcases List.mem_cons.mp h with h | h
      · exact (e h.symm).elim
      · exact wipe_in h l
theorem wipe_out {σ : L2.St} {vs : List Nat} {i : Nat} (h : σ.length ≤ i) : (wipe σ vs)[i]? = none := List.getElem?_eq_none_iff.mpr (by rw [wipe_length]; exact h)
theorem wipe_ext {σ σ' : L2.St} {vs : List Nat} (hl : σ'.length = σ.length) (h : ∀ i : Nat, i ∉ vs → σ'[i]? = σ[i]?) : wipe σ' vs = wipe σ vs := by
  refine List.ext_getElem? fun i => ?_
  by_cases l : i < σ.length
  · by_cases m : i ∈ vs
    · rw [wipe_in m l, wipe_in m (by omega)]
    · rw [wipe_get m, wipe_get m, h i m]
  · rw [wipe_out (by omega), wipe_out (by omega)]
theorem wipe_wipe (σ : L2.St) (vs : List Nat) : wipe (wipe σ vs) vs = wipe σ vs := wipe_ext (wipe_length ..) fun i h => wipe_get h
theorem Same.refl (is : List Nat) (σ : L2.St) : Same is σ σ := fun vs _ => rfl
theorem same_set {i : Nat} {is : List Nat} {σ σ' : L2.St} {v : V} (h : Same is (σ.set i (some v)) σ') : Same (i :: is) σ σ' := fun vs hv => by
  rw [h vs fun k hk => hv k (List.mem_cons_of_mem _ hk)]
  refine wipe_ext (by simp) fun k hk => ?_
  exact List.getElem?_set_ne fun (e : i = k) => hk (e ▸ hv i (List.mem_cons_self ..))
theorem rwipe_get : ∀ {vs : List Nat} {ρ : Rho} {i : Nat}, i ∉ vs → (ρ.wipe vs)[i]? = ρ[i]?
  | [], ρ, i, _ => rfl
  | v :: vs, ρ, i, h => by
    rw [List.mem_cons, not_or] at h
    show ((ρ.wipe vs).put v none)[i]? = _
    rw [put_set, List.getElem?_set_ne (Ne.symm h.1)]
    exact rwipe_get h.2
theorem rwipe_in : ∀ {vs : List Nat} {ρ : Rho} {i : Nat} {a : Val}, i ∈ vs → (ρ.wipe vs)[i]? ≠ some (some a)
  | [], ρ, i, a, h => by simp at h
  | v :: vs, ρ, i, a, h => by
    show ((ρ.wipe vs).put v none)[i]? ≠ _
    rw [put_set]
    by_cases e : v = i
    · subst e
      rw [List.getElem?_set]
      simp only [if_true]
      split <;> simp
    · rw [List.getElem?_set_ne e]
      rcases List.mem_cons.mp h with h | h
      · exact (e h.symm).elim
      · exact rwipe_in h
section
variable {N : Nm} {Θ : Th} {I I' : Addr → Prop} {σ : L2.St} {τ τ' : List V} {H H' : Hp} {ρ : Rho} {δ δ' : List Val}
theorem S0.top {v : V} {a : Val} (s : S0 N Θ I σ (τ ++ [v]) H ρ (δ ++ [a])) : RepV N I H a v := by
  have l2 : τ.length = δ.length := by have := s.l2; simpa using this
  obtain ⟨u, hu, r⟩ := s.hand (k := δ.length) (a := a) (by simp)
  rw [← l2] at hu
  have e : v = u := by simpa using hu
  rw [e]
  exact r
theorem S0.topI {v : V} {a : Val} (s : S0 N Θ I σ (τ ++ [v]) H ρ (δ ++ [a])) {d : D} (e : a.2 = d) (hd : ∀ p, ¬ OwnC N I H p d) : Rep N I H d v := by
  have r := s.top
  cases q : ownF a.1 with
  | true =>
    obtain ⟨p, _, _, c⟩ := (repV_own q).mp r
    rw [e] at c
    exact (hd p c).elim
  | false => rw [← e]; exact (repV_imm q).mp r
theorem S0.topBl {v : V} {a : Val} (s : S0 N Θ I σ (τ ++ [v]) H ρ (δ ++ [a])) {k : Bool} (e : a.2 = .bl k) : v = .bl k := s.topI e fun _ z => z
theorem S0.len1 {v : V} {a : Val} (s : S0 N Θ I σ (τ ++ [v]) H ρ (δ ++ [a])) : τ.length = δ.length := by have := s.l2; simpa using this
/-- the last thing at hand goes into a slot -/
theorem S0.asg {v : V} {a : Val} (s : S0 N Θ I σ (τ ++ [v]) H ρ (δ ++ [a])) {i : Nat} (hi : i < ρ.length) (hn : ∀ b, ρ.at i = some b → b.1 ≠ .par ∧ b.1 ≠ .parl) : S0 N Θ I (σ.set i (some v)) τ H (ρ.put i (some a)) δ := by
  have l2 := s.len1
  have l1 := s.l1
  refine ⟨?_, by rw [put_len]; simpa using l1, l2, by rw [put_len]; exact s.lp⟩
  have r := s.r
  rw [snoc_map, snoc_map, ← List.append_assoc, ← List.append_assoc] at r
  have ee : (ρ ++ δ.map some).length = ρ.length + δ.length := by simp
  have ew : (σ ++ τ.map some).length = ρ.length + δ.length := by simp [l1, l2]
  rw [← put_app _ _ _ _ hi]
  have e2 : σ.set i (some v) ++ τ.map some = (σ ++ τ.map some).set i (some v) := (List.set_append_left i (some v) (by omega)).symm
  rw [e2]
  have last : (ρ ++ δ.map some ++ [some a])[ρ.length + δ.length]? = some (some a) := by rw [← ee]; simp
  have lastw : (σ ++ τ.map some ++ [some v])[ρ.length + δ.length]? = some (some v) := by rw [← ew]; simp
  refine R.map r (fun j => if j = i then ρ.length + δ.length else j) (fun j b h => ?_) (fun j k b c h1 h2 e => ?_) fun j p hp => ?_
  · by_cases c : j = i
    · subst c
      rw [if_pos rfl, last, lastw]
      rw [List.getElem?_set_self (by simp; omega)] at h
      rw [List.getElem?_set_self (by simp; omega)]
      exact ⟨h, rfl⟩
    · rw [if_neg c]
      rw [List.getElem?_set_ne (Ne.symm c)] at h
      rw [List.getElem?_set_ne (Ne.symm c)]
      have lt := (List.getElem?_eq_some_iff.mp h).1
      exact ⟨get_app h, (app_get (by omega)).symm⟩
  · have lt : ∀ (j : Nat) (b : Val), ((ρ ++ δ.map some).set i (some a))[j]? = some (some b) → j < ρ.length + δ.length := fun j b h => by
      have := (List.getElem?_eq_some_iff.mp h).1
      simpa using this
    have h1 := lt j b h1
    have h2 := lt k c h2
    by_cases cj : j = i
    · by_cases ck : k = i
      · omega
      · simp only [cj, ck, if_true, if_false] at e; omega
    · by_cases ck : k = i
      · simp only [cj, ck, if_true, if_false] at e; omega
      · simp only [cj, ck, if_false] at e; exact e
  · have lj : j < ρ.length := by
      have := (List.getElem?_eq_some_iff.mp hp).1
      have := s.lp
      omega
    have c : j ≠ i := fun z => by
      subst z
      obtain ⟨_, b, e1, e2⟩ := r.pin j p hp
      rw [List.append_assoc, app_get (by omega)] at e1
      obtain ⟨n1, n2⟩ := hn b (at_get.mpr e1)
      rcases e2 with e2 | e2
      · exact n1 e2
      · exact n2 e2.1
    rw [List.getElem?_set_ne (Ne.symm c), List.getElem?_set_ne (Ne.symm c), app_get (l := ρ ++ δ.map some) (by omega), app_get (l := σ ++ τ.map some) (by omega)]
    exact ⟨rfl, rfl⟩
/-- something in the middle is dropped -/
theorem S0.mid {v : V} {a : Val} (s : S0 N Θ I σ (τ ++ τ' ++ [v]) H ρ (δ ++ δ' ++ [a])) (l2 : τ.length = δ.length) : S0 N Θ I σ (τ ++ [v]) H ρ (δ ++ [a]) := by
  have l1 := s.l1
  have l3 := s.l2
  simp at l3
  refine ⟨?_, l1, by simp [l2], s.lp⟩
  have ew : (σ ++ τ.map some).length = ρ.length + δ.length := by simp [l1, l2]
  have ee : (ρ ++ δ.map some).length = ρ.length + δ.length := by simp
  have w1 : σ ++ (τ ++ [v]).map some = (σ ++ τ.map some) ++ [some v] := by simp
  have e1 : ρ ++ (δ ++ [a]).map some = (ρ ++ δ.map some) ++ [some a] := by simp
  have w2 : σ ++ (τ ++ τ' ++ [v]).map some = (σ ++ τ.map some) ++ (τ'.map some ++ [some v]) := by simp
  have e2 : ρ ++ (δ ++ δ' ++ [a]).map some = (ρ ++ δ.map some) ++ (δ'.map some ++ [some a]) := by simp
  have r := s.r
  rw [w2, e2] at r
  rw [w1, e1]
  have lastE : ((ρ ++ δ.map some) ++ (δ'.map some ++ [some a]))[ρ.length + δ.length + δ'.length]? = some (some a) := by
    rw [List.getElem?_append_right (by omega), ee, Nat.add_sub_cancel_left]
    simp
  have lastW : ((σ ++ τ.map some) ++ (τ'.map some ++ [some v]))[ρ.length + δ.length + δ'.length]? = some (some v) := by
    rw [List.getElem?_append_right (by omega), ew, Nat.add_sub_cancel_left]
    have : δ'.length = τ'.length := by omega
    rw [this]
    simp
  refine R.map r (fun j => if j < ρ.length + δ.length then j else j + δ'.length) (fun j b h => ?_) (fun j k b c h1 h2 e => ?_) fun j p hp => ?_
  · by_cases c : j < ρ.length + δ.length
    · rw [if_pos c]
      rw [app_get (l := ρ ++ δ.map some) (by omega)] at h ⊢
      rw [app_get (l := σ ++ τ.map some) (by omega), app_get (l := σ ++ τ.map some) (by omega)]
      exact ⟨h, rfl⟩
    · have lt := (List.getElem?_eq_some_iff.mp h).1
      rw [List.length_append, ee] at lt
      have lt : j < ρ.length + δ.length + 1 := lt
      have ej : j = ρ.length + δ.length := by omega
      rw [if_neg c]
      subst ej
      rw [lastE, lastW]
      rw [← ee] at h
      refine ⟨by simpa using h, ?_⟩
      rw [← ew]
      simp
  · by_cases cj : j < ρ.length + δ.length
    · by_cases ck : k < ρ.length + δ.length
      · simp only [cj, ck, if_true] at e; exact e
      · simp only [cj, ck, if_true, if_false] at e; omega
    · by_cases ck : k < ρ.length + δ.length
      · simp only [cj, ck, if_true, if_false] at e; omega
      · simp only [cj, ck, if_false] at e; omega
  · have lj : j < ρ.length := by
      have := (List.getElem?_eq_some_iff.mp hp).1
      have := s.lp
      omega
    rw [app_get (l := ρ ++ δ.map some) (by omega), app_get (l := ρ ++ δ.map some) (by omega), app_get (l := σ ++ τ.map some) (by omega), app_get (l := σ ++ τ.map some) (by omega)]
    exact ⟨rfl, rfl⟩
/-- the slots of a block's own names, forgotten -/
theorem S0.wipe (s : S0 N Θ I σ τ H ρ δ) {vs : List Nat} (hn : ∀ (i : Nat) (p : Addr), Θ.ps[i]? = some (some p) → i ∉ vs) : S0 N Θ I (wipe σ vs) τ H (ρ.wipe vs) δ := by
  have l1 := s.l1
  have l2 := s.l2
  have l3 : (L2.wipe σ vs).length = σ.length := wipe_length ..
  have l4 : (ρ.wipe vs).length = ρ.length := wipe_len ..
  refine ⟨?_, by omega, s.l2, by have := s.lp; omega⟩
  have key : ∀ j : Nat, j ∉ vs ∨ ρ.length ≤ j → (ρ.wipe vs ++ δ.map some)[j]? = (ρ ++ δ.map some)[j]? ∧ (L2.wipe σ vs ++ τ.map some)[j]? = (σ ++ τ.map some)[j]? := fun j hj => by
    by_cases c : j < ρ.length
    · have m : j ∉ vs := hj.resolve_right (by omega)
      rw [app_get (by omega), app_get (by omega), app_get (by omega), app_get (by omega), rwipe_get m, wipe_get m]
      exact ⟨rfl, rfl⟩
    · rw [List.getElem?_append_right (by omega), List.getElem?_append_right (by omega), List.getElem?_append_right (by omega), List.getElem?_append_right (by omega), l3, l4]
      exact ⟨rfl, rfl⟩
  refine R.map s.r (fun j => j) (fun j b h => ?_) (fun j k b c _ _ e => e) fun j p hp => ?_
  · by_cases c : j < ρ.length
    · have m : j ∉ vs := fun m => by
        rw [app_get (by omega)] at h
        exact rwipe_in m h
      obtain ⟨k1, k2⟩ := key j (.inl m)
      rw [k1] at h
      exact ⟨h, k2⟩
    · obtain ⟨k1, k2⟩ := key j (.inr (by omega))
      rw [k1] at h
      exact ⟨h, k2⟩
  · exact key j (.inl (hn j p hp))
theorem S0.unwipe {vs : List Nat} (s : S0 N Θ I (L2.wipe σ vs) τ H ρ δ) : S0 N Θ I σ τ H ρ δ := by
  have l3 : (L2.wipe σ vs).length = σ.length := wipe_length ..
  have l1 := s.l1
  refine ⟨?_, by omega, s.l2, s.lp⟩
  have key : ∀ (j : Nat) (b : Val), (ρ ++ δ.map some)[j]? = some (some b) → (σ ++ τ.map some)[j]? = (L2.wipe σ vs ++ τ.map some)[j]? := fun j b h => by
    by_cases c : j < ρ.length
    · obtain ⟨v, hv, _⟩ := s.r.rep j b h
      rw [app_get (by omega)] at hv
      have m : j ∉ vs := fun m => by
        rw [wipe_in m (by omega)] at hv
        cases hv
      rw [app_get (by omega), app_get (by omega), wipe_get m]
    · rw [List.getElem?_append_right (by omega), List.getElem?_append_right (by omega), l3]
  refine R.map s.r (fun j => j) (fun j b h => ⟨h, key j b h⟩) (fun j k b c _ _ e => e) fun j p hp => ?_
  obtain ⟨_, b, e1, _⟩ := s.r.pin j p hp
  exact ⟨rfl, key j b e1⟩
theorem wipeB_not {vs : List Nat} (s : S0 N Θ I σ τ H ρ δ) (h : wipeB ρ vs = true) : ∀ (i : Nat) (p : Addr), Θ.ps[i]? = some (some p) → i ∉ vs := fun i p hp m => by
  have lj : i < ρ.length := by
    have := (List.getElem?_eq_some_iff.mp hp).1
    have := s.lp
    omega
  obtain ⟨_, b, e1, e2⟩ := s.r.pin i p hp
  rw [app_get lj] at e1
  have e1 := at_get.mpr e1
  obtain ⟨f, d⟩ := b
  have hf : f = .par ∨ f = .parl := e2.elim .inl fun z => .inr z.1
  clear hp e2
  induction vs with
  | nil => simp at m
  | cons k vs ih =>
    unfold wipeB at h
    rw [Bool.and_eq_true] at h
    rcases List.mem_cons.mp m with e | m
    · subst e
      rw [e1] at h
      rcases hf with rfl | rfl <;> simp at h
    · exact ih h.2 m
/-- a list at hand, written -/
theorem S0.writeT (s : S0 N Θ I σ τ H ρ δ) {k : Nat} {f : Fl} {d d' : D} {p : Addr} {o : HO} (h : δ[k]? = some (f, d)) (hf : ownF f = true) (hv : τ[k]? = some (.ref p)) (c : OwnC N I (upd H p o) p d') : S0 N Θ I σ τ (upd H p o) ρ (δ.set k (f, d')) := by
  have lk := (List.getElem?_eq_some_iff.mp h).1
  have e1 : (ρ ++ δ.map some)[ρ.length + k]? = some (some (f, d)) := by
    rw [List.getElem?_append_right (by omega), Nat.add_sub_cancel_left, List.getElem?_map, h]
    rfl
  have e2 : (σ ++ τ.map some)[ρ.length + k]? = some (some (V.ref p)) := by
    rw [← s.l1, List.getElem?_append_right (by omega), Nat.add_sub_cancel_left, List.getElem?_map, hv]
    rfl
  have r := R.write s.r e1 hf e2 c
  have e3 : (ρ ++ δ.map some).set (ρ.length + k) (some (f, d')) = ρ ++ (δ.set k (f, d')).map some := by
    rw [List.set_append_right _ _ (by omega), Nat.add_sub_cancel_left, List.map_set]
  rw [e3] at r
  exact ⟨r, s.l1, by rw [List.length_set]; exact s.l2, s.lp⟩
theorem S0.writeN (s : S0 N Θ I σ τ H ρ δ) {i : Nat} {f : Fl} {d d' : D} {p : Addr} {o : HO} (h : ρ.at i = some (f, d)) (hf : ownF f = true) (hv : σ[i]? = some (some (.ref p))) (c : OwnC N I (upd H p o) p d') : S0 N Θ I σ τ (upd H p o) (ρ.put i (some (f, d'))) δ := by
  have li := at_lt h
  have r := R.write s.r (get_app (at_get.mp h)) hf (get_app hv) c
  rw [put_app _ _ _ _ li] at r
  exact ⟨r, by rw [put_len]; exact s.l1, s.l2, by rw [put_len]; exact s.lp⟩
end
end Ev
set_option Elab.async false
set_option linter.all false
set_option autoImplicit false
set_option maxRecDepth 100000
set_option maxHeartbeats 1000000
namespace Ev
open PySem PySem.Spec PyProof.Rows L2
/-! ### targets -/
def locN (cf : Cf) (sc : Scope) (i : Nat) : Expr → Bool
  | .Name x _ => decide (cf.N[i]? = some x) && locB sc x
  | _ => false
def locNs (cf : Cf) (sc : Scope) : List Nat → List Expr → Bool
  | [], [] => true
  | i :: is, e :: es => locN cf sc i e && locNs cf sc is es
  | _, _ => false
def chkTg (cf : Cf) (sc : Scope) : Tg → Expr → Bool
  | .v i, e => locN cf sc i e
  | .vs is, .Tuple es _ _ => locNs cf sc is es
  | _, _ => false
def tgIx : Tg → List Nat
  | .v i => [i]
  | .vs is => is
/-- what a context says of the names that it may set -/
def LocOk (X : Cx) (sc : Scope) : Prop := ∀ x, locB sc x = true → Loc X.env.scope x ∧ (X.fn x = true ∨ X.env.scope.names.lookup x = some .local)
def tG (C : Cn) (tg : Tg) : TG := fun v σ H Q => ∃ Θ I τ ρ δ a P, S0 C.N Θ I σ (τ ++ [v]) H ρ (δ ++ [a]) ∧ asgTg tg a ρ P ∧ ∀ ρ' σ', S0 C.N Θ I σ' τ H ρ' δ → Same (tgIx tg) σ σ' → P ρ' → Q σ' H
theorem PG.imp {X : Cx} {e : Expr} {t t' : TG} (h : PG X e t) (hi : ∀ v σ H Q, t' v σ H Q → t v σ H Q) : PG X e t' := ⟨fun pins s σ H v u Q I r q => h.run pins s σ H v u Q I r (hi _ _ _ _ q)⟩
def gIs : List Nat → TGs
  | [] => gNil
  | i :: is => gCons (gName i) (gIs is)
section
variable {cf : Cf} {C : Cn} {X : Cx} {sc : Scope}
theorem loc_name {i : Nat} {e : Expr} (h : locN cf sc i e = true) : ∃ x p, e = .Name x p ∧ cf.N[i]? = some x ∧ locB sc x = true := by
  cases e with
  | Name x p =>
    have h : (decide (cf.N[i]? = some x) && locB sc x) = true := h
    rw [Bool.and_eq_true] at h
    exact ⟨x, p, rfl, by simpa using h.1, h.2⟩
  | _ => cases h
theorem pgs_is (hN : X.N = cf.N) (nd : cf.N.Nodup) (lo : LocOk X sc) : ∀ {is : List Nat} {es : List Expr}, locNs cf sc is es = true → PGs X es (gIs is) ∧ (assignEach es X.env).length = es.length ∧ is.length = es.length ∧ ∀ q ∈ assignEach es X.env, q.1 = false
  | [], [], _ => ⟨pgs_nil, rfl, rfl, fun q h => by cases h⟩
  | i :: is, e :: es, h => by
    have h : (locN cf sc i e && locNs cf sc is es) = true := h
    rw [Bool.and_eq_true] at h
    obtain ⟨x, p, rfl, hx, lx⟩ := loc_name h.1
    obtain ⟨h1, h2, h3, h4⟩ := pgs_is hN nd lo h.2
    have e1 : assignEach (.Name x p :: es) X.env = (false, assign (.Name x p) X.env) :: assignEach es X.env := rfl
    refine ⟨pgs_cons (pg_name (by rw [hN]; exact nd) (by rw [hN]; exact hx) (lo x lx).1 (lo x lx).2) h1, by rw [e1]; simp [h2], by simp [h3], fun q hq => ?_⟩
    rw [e1] at hq
    rcases List.mem_cons.mp hq with e | hq
    · rw [e]
    · exact h4 q hq
  | [], _ :: _, h => by cases h
  | _ :: _, [], h => by cases h
theorem S0.asgX {N : Nm} {Θ : Th} {I : Addr → Prop} {σ : L2.St} {τ : List V} {H : Hp} {ρ : Rho} {δ : List Val} {v : V} {a : Val} (s : S0 N Θ I σ (τ ++ [v]) H ρ (δ ++ [a])) {i : Nat} (hn : ∀ b, ρ.at i = some b → b.1 ≠ .par ∧ b.1 ≠ .parl) : S0 N Θ I (σ.set i (some v)) τ H (ρ.put i (some a)) δ := by
  by_cases c : i < ρ.length
  · exact s.asg c hn
  · have l1 := s.l1
    rw [List.set_eq_of_length_le (by omega), put_set, List.set_eq_of_length_le (by omega)]
    exact s.pop
theorem asg_not {ρ : Rho} {i : Nat} {A B : Prop} (h : match ρ.at i with | some (.par, _) => False | some (.parl, _) => False | _ => B) : (∀ b, ρ.at i = some b → b.1 ≠ .par ∧ b.1 ≠ .parl) ∧ B := by
  cases q : ρ.at i with
  | none => rw [q] at h; exact ⟨fun b e => (by cases e), h⟩
  | some b =>
    obtain ⟨f, d⟩ := b
    rw [q] at h
    cases f with
    | par => exact h.elim
    | parl => exact h.elim
    | imm => exact ⟨fun b e => by cases e; exact ⟨by simp, by simp⟩, h⟩
    | own => exact ⟨fun b e => by cases e; exact ⟨by simp, by simp⟩, h⟩
section
variable {Θ : Th} {I : Addr → Prop} {H : Hp} {τ : List V} {δ : List Val}
theorem asgVs_ok {P : Rho → Prop} {Q : L2.St → Hp → Prop} : ∀ {is : List Nat} {ds : List D} {vs : List V} {ρ : Rho} {σ : L2.St}, S0 C.N Θ I σ τ H ρ δ → RepL C.N I H ds vs → asgVs is ds ρ P →
    (∀ ρ' σ', S0 C.N Θ I σ' τ H ρ' δ → Same is σ σ' → P ρ' → Q σ' H) → gIs is vs σ H Q
  | [], [], vs, ρ, σ, s, r, h, k => ⟨r, k ρ σ s (.refl [] σ) h⟩
  | i :: is, d :: ds, vs, ρ, σ, s, ⟨v, r, e, rv, rr⟩, h, k => by
    subst e
    obtain ⟨hn, h'⟩ := asg_not (A := True) (B := asgVs is ds (ρ.put i (some (.imm, d))) P) h
    have s1 : S0 C.N Θ I σ (τ ++ [v]) H ρ (δ ++ [(.imm, d)]) := s.step (.old rv)
    refine ⟨v, r, rfl, ?_⟩
    show gIs is r (σ.set i (some v)) H Q
    exact asgVs_ok (s1.asgX hn) rr h' fun ρ' σ' s' sm p => k ρ' σ' s' (same_set sm) p
  | [], _ :: _, vs, ρ, σ, s, r, h, k => h.elim
  | _ :: _, [], vs, ρ, σ, s, r, h, k => h.elim
end
theorem asg_len {P : Rho → Prop} : ∀ {is : List Nat} {ds : List D} {ρ : Rho}, asgVs is ds ρ P → is.length = ds.length
  | [], [], ρ, _ => rfl
  | i :: is, d :: ds, ρ, h => by
    obtain ⟨_, h'⟩ := asg_not (A := True) (B := asgVs is ds (ρ.put i (some (.imm, d))) P) h
    simp [asg_len h']
  | [], _ :: _, ρ, h => h.elim
  | _ :: _, [], ρ, h => h.elim
theorem pg_sound (hN : X.N = cf.N) (nd : cf.N.Nodup) (hc : X.calm = true) (hK : X.K = C.N.K) (lo : LocOk X sc) {tg : Tg} {e : Expr} (h : chkTg cf sc tg e = true) : PG X e (tG C tg) := by
  cases tg with
  | v i =>
    obtain ⟨x, p, rfl, hx, lx⟩ := loc_name (cf := cf) (sc := sc) (i := i) (e := e) h
    refine PG.imp (pg_name (by rw [hN]; exact nd) (by rw [hN]; exact hx) (lo x lx).1 (lo x lx).2) fun v σ H Q ⟨Θ, I, τ, ρ, δ, a, P, s, w, k⟩ => ?_
    obtain ⟨hn, h'⟩ := asg_not (A := True) (B := P (ρ.put i (some a))) w
    exact k _ _ (s.asgX hn) (same_set (.refl [] _)) h'
  | vs is =>
    cases e with
    | Tuple es kk p =>
      obtain ⟨h1, h2, h3, h4⟩ := pgs_is (X := X) hN nd lo (is := is) (es := es) h
      have hst : (assignEach es X.env).findIdx? (·.1) = none := by
        rw [List.findIdx?_eq_none_iff]
        exact h4
      refine PG.imp (pg_tup hc h1 h2 hst) fun v σ H Q ⟨Θ, I, τ, ρ, δ, a, P, s, w, k⟩ => ?_
      obtain ⟨f, d⟩ := a
      cases d with
      | tup ds =>
        have r := s.topI (d := .tup ds) rfl fun _ z => z
        obtain ⟨p, vs, rfl, at_, rl⟩ := r
        refine ⟨p, vs, rfl, by rw [hK]; exact at_.sq, ?_, ?_⟩
        · rw [rl.len, ← h3, asg_len (is := is) (ds := ds) (ρ := ρ) (P := P) w]
        · exact asgVs_ok s.pop rl w k
      | _ => exact w.elim
    | _ => cases h
end
/-! ### what is walked over -/
def iSeq (K : PySem.W.Frag) (tl : TE) : TI := fun σ H R => tl σ H fun x H1 => ∃ a, x = .ref a ∧ ((∃ xs, SqL K H1 a xs) ∧ R (Itl K a) H1 ∨ (∃ xs, SqT K H1 a xs) ∧ R (Itt K a) H1)
theorem pi_seq {X : Cx} {tg l : Expr} {tl : TE} (hl : PE X l tl) : PI X tg l (iSeq X.K tl) := by
  refine ⟨fun pins s σ H R I h => ?_⟩
  refine thn (hl.run pins s σ H _ I h) fun v s1 ⟨x, H1, I1, r1, q1⟩ => ?_
  obtain ⟨a, e, q1⟩ := q1
  subst e
  cases r1
  rcases q1 with ⟨⟨xs, hq⟩, q⟩ | ⟨⟨xs, hq⟩, q⟩
  · obtain ⟨its, rv, p, hz⟩ := I1.list hq
    refine wpAny_pyIter_list p.isList ?_
    refine ⟨s1.heap.objs.size, [s1.heap.objs.size], _, _, H1, rfl, I1.kept (t' := s1.toks) fun b o e => Heap.get?_push_of_some _ e, turn_list a _, ⟨_, Heap.get?_push_size _ rfl, rfl, rfl⟩, fun b hb => ?_, q⟩
    have e : b = s1.heap.objs.size := by simpa using hb
    subst e
    exact I1.fpOk (Nat.le_refl _) (I1.hok.fresh (Nat.le_refl _))
  · obtain ⟨its, rv, p, hz⟩ := I1.tuple hq
    refine wpAny_pyIter_tuple (show s1.heap.IsTuple a its.toArray from p) ?_
    refine ⟨s1.heap.objs.size, [s1.heap.objs.size], _, _, H1, rfl, I1.kept (t' := s1.toks) fun b o e => Heap.get?_push_of_some _ e, turn_tuple a _, ⟨_, Heap.get?_push_size _ rfl, rfl, rfl⟩, fun b hb => ?_, q⟩
    have e : b = s1.heap.objs.size := by simpa using hb
    subst e
    exact I1.fpOk (Nat.le_refl _) (I1.hok.fresh (Nat.le_refl _))
/-- an iterator that yields these items, as long as its sources stand -/
def ItOk (N : Nm) (J : L2.It) (srcs : List (D × V)) (items : List D) : Prop := ∀ I H, (∀ q ∈ srcs, Rep N I H q.1 q.2) → ∀ i : Nat, (∀ d, items[i]? = some d → J.go i H ∧ ∀ x H', J.yld i H x H' → ∃ I', Step N I H (.imm, d) x I' H') ∧ (items.length ≤ i → J.stop i H)
/-- where the sources stand -/
def SrcAt (τ : List V) (δ : List Val) (srcs : List (D × V)) : Prop := ∀ q ∈ srcs, ∃ (k : Nat) (f : Fl), τ[k]? = some q.2 ∧ δ[k]? = some (f, q.1) ∧ ownF f = false
theorem SrcAt.reps {N : Nm} {Θ : Th} {I : Addr → Prop} {σ : L2.St} {τ τ' : List V} {H : Hp} {ρ : Rho} {δ δ' : List Val} {srcs : List (D × V)} (h : SrcAt τ δ srcs) (s : S0 N Θ I σ (τ ++ τ') H ρ (δ ++ δ')) : ∀ q ∈ srcs, Rep N I H q.1 q.2 := fun q hq => by
  obtain ⟨k, f, e1, e2, o⟩ := h q hq
  obtain ⟨v, hv, r⟩ := s.hand (k := k) (get_app e2)
  rw [get_app e1] at hv
  cases hv
  exact (repV_imm (a := (f, q.1)) o).mp r
def tI (C : Cn) (it : It) : TI := fun σ H R => ∃ Θ I τ ρ δ P X, S0 C.N Θ I σ τ H ρ δ ∧ wpIt C.G it ρ P X ∧
  (∀ items ρ' τ' δ' srcs J H' I', S0 C.N Θ I' σ (τ ++ τ') H' ρ' (δ ++ δ') → SrcAt (τ ++ τ') (δ ++ δ') srcs → ItOk C.N J srcs items → P items ρ' → R J H') ∧ XOk C Θ σ τ δ X
theorem PI.imp {X : Cx} {tg e : Expr} {t t' : TI} (h : PI X tg e t) (hi : ∀ σ H R, t' σ H R → t σ H R) : PI X tg e t' := ⟨fun pins s σ H R I q => h.run pins s σ H R I (hi _ _ _ q)⟩
theorem sq_items {N : Nm} {I : Addr → Prop} {H : Hp} {d : D} {ds : List D} {v : V} (h : seqItems d = some ds) (r : Rep N I H d v) : ∃ p vs, v = .ref p ∧ RepL N I H ds vs ∧ (isTup d = false → SqL N.K H p vs) ∧ (isTup d = true → SqT N.K H p vs) := by
  cases d with
  | lst xs =>
    cases h
    obtain ⟨p, vs, e, a, rl⟩ := r
    exact ⟨p, vs, e, rl, fun _ => .inl (.inl a.2), fun z => by cases z⟩
  | frz xs =>
    cases h
    obtain ⟨p, vs, e, a, rl⟩ := r
    exact ⟨p, vs, e, rl, fun _ => a.sq, fun z => by cases z⟩
  | tup xs =>
    cases h
    obtain ⟨p, vs, e, a, rl⟩ := r
    exact ⟨p, vs, e, rl, fun z => (by cases z), fun _ => a.sq⟩
  | _ => cases h
section
variable {N : Nm} {K : PySem.W.Frag}
theorem itok_l (hK : K = N.K) {d : D} {ds : List D} {p : Addr} (h : seqItems d = some ds) (ht : isTup d = false) : ItOk N (Itl K p) [(d, .ref p)] ds := by
  intro I H hs i
  obtain ⟨p', vs, e, rl, hq, _⟩ := sq_items h (hs _ (List.mem_cons_self ..))
  cases e
  have q : SqL K H p vs := by rw [hK]; exact hq ht
  refine ⟨fun x hx => ?_, fun l => ⟨vs, q, by rw [rl.len]; exact l⟩⟩
  obtain ⟨v, hv, rv⟩ := rl.get hx
  refine ⟨⟨vs, v, q, hv⟩, fun y H' ⟨e, hy⟩ => ?_⟩
  subst e
  have e2 := hy vs q
  rw [hv] at e2
  cases e2
  exact ⟨I, .old rv⟩
theorem itok_t (hK : K = N.K) {d : D} {ds : List D} {p : Addr} (h : seqItems d = some ds) (ht : isTup d = true) : ItOk N (Itt K p) [(d, .ref p)] ds := by
  intro I H hs i
  obtain ⟨p', vs, e, rl, _, hq⟩ := sq_items h (hs _ (List.mem_cons_self ..))
  cases e
  have q : SqT K H p vs := by rw [hK]; exact hq ht
  refine ⟨fun x hx => ?_, fun l => ⟨vs, q, by rw [rl.len]; exact l⟩⟩
  obtain ⟨v, hv, rv⟩ := rl.get hx
  refine ⟨⟨vs, v, q, hv⟩, fun y H' ⟨e, hy⟩ => ?_⟩
  subst e
  have e2 := hy vs q
  rw [hv] at e2
  cases e2
  exact ⟨I, .old rv⟩
theorem rangeI_len : ∀ (n : Nat) (lo : Int), (rangeI lo n).length = n
  | 0, _ => rfl
  | n + 1, lo => congrArg Nat.succ (rangeI_len n (lo + 1))
theorem rangeI_get : ∀ (n : Nat) (lo : Int) (i : Nat) (d : D), (rangeI lo n)[i]? = some d → d = .int (lo + i)
  | 0, _, i, d, h => by simp [rangeI] at h
  | n + 1, lo, 0, d, h => by
    have h : some (D.int lo) = some d := h
    cases h
    simp
  | n + 1, lo, i + 1, d, h => by
    rw [rangeI_get n (lo + 1) i d h]
    congr 1
    omega
theorem itok_r {lo : Int} {n : Nat} : ItOk N (Itr lo n) [] (rangeI lo n) := by
  intro I H _ i
  refine ⟨fun d hd => ?_, fun l => by rw [rangeI_len] at l; exact l⟩
  have li := (List.getElem?_eq_some_iff.mp hd).1
  rw [rangeI_len] at li
  refine ⟨li, fun x H' ⟨e, ex⟩ => ?_⟩
  subst e ex
  rw [rangeI_get _ _ _ _ hd]
  exact ⟨I, .old rfl⟩
theorem zipD_get : ∀ {xs ys : List D} {i : Nat} {d : D}, (zipD xs ys)[i]? = some d → ∃ x y, xs[i]? = some x ∧ ys[i]? = some y ∧ d = .tup [x, y]
  | [], ys, i, d, h => by simp [zipD] at h
  | x :: xs, [], i, d, h => by simp [zipD] at h
  | x :: xs, y :: ys, 0, d, h => by
    have h : some (D.tup [x, y]) = some d := h
    cases h
    exact ⟨x, y, rfl, rfl, rfl⟩
  | x :: xs, y :: ys, i + 1, d, h => zipD_get (xs := xs) (ys := ys) (i := i) h
theorem zipD_len : ∀ {xs ys : List D}, (zipD xs ys).length = min xs.length ys.length
  | [], ys => by simp [zipD]
  | x :: xs, [] => by simp [zipD]
  | x :: xs, y :: ys => by
    show (zipD xs ys).length + 1 = _
    rw [zipD_len]
    simp only [List.length_cons]
    omega
theorem enumD_get : ∀ {xs : List D} {k : Int} {i : Nat} {d : D}, (enumD k xs)[i]? = some d → ∃ x, xs[i]? = some x ∧ d = .tup [.int (k + i), x]
  | [], k, i, d, h => by simp [enumD] at h
  | x :: xs, k, 0, d, h => by
    have h : some (D.tup [.int k, x]) = some d := h
    cases h
    exact ⟨x, rfl, by simp⟩
  | x :: xs, k, i + 1, d, h => by
    obtain ⟨y, e1, e2⟩ := enumD_get (xs := xs) (k := k + 1) (i := i) h
    refine ⟨y, e1, ?_⟩
    rw [e2]
    have : k + 1 + (i : Int) = k + ((i + 1 : Nat) : Int) := by omega
    rw [this]
theorem enumD_len : ∀ {xs : List D} {k : Int}, (enumD k xs).length = xs.length
  | [], _ => rfl
  | x :: xs, k => congrArg Nat.succ enumD_len
theorem rep_pair {I : Addr → Prop} {H : Hp} {d1 d2 : D} {v1 v2 : V} (a : Rep N I H d1 v1) (b : Rep N I H d2 v2) : RepL N I H [d1, d2] [v1, v2] := ⟨v1, [v2], rfl, a, v2, [], rfl, b, rfl⟩
theorem itok_zl (hK : K = N.K) {d1 d2 : D} {xs ys : List D} {p q : Addr} (h1 : seqItems d1 = some xs) (h2 : seqItems d2 = some ys) (t1 : isTup d1 = false) (t2 : isTup d2 = false) : ItOk N (Itz K p q) [(d1, .ref p), (d2, .ref q)] (zipD xs ys) := by
  intro I H hs i
  obtain ⟨p', vs, e, rl, hq, _⟩ := sq_items h1 (hs _ (List.mem_cons_self ..))
  cases e
  obtain ⟨p', us, e, rl2, hq2, _⟩ := sq_items h2 (hs _ (List.mem_cons_of_mem _ (List.mem_cons_self ..)))
  cases e
  have s1 : SqL K H p vs := by rw [hK]; exact hq t1
  have s2 : SqL K H q us := by rw [hK]; exact hq2 t2
  refine ⟨fun d hd => ?_, fun l => ⟨vs, us, s1, s2, ?_⟩⟩
  · obtain ⟨x, y, hx, hy, rfl⟩ := zipD_get hd
    obtain ⟨v, hv, rv⟩ := rl.get hx
    obtain ⟨u, hu, ru⟩ := rl2.get hy
    refine ⟨⟨vs, us, v, u, s1, s2, hv, hu⟩, fun y H' ⟨T, x', y', e1, e2, e3, e4, e5⟩ => ?_⟩
    have a1 := e4 vs s1
    have a2 := e5 us s2
    rw [hv] at a1
    rw [hu] at a2
    cases a1
    cases a2
    subst e1 e3
    exact ⟨_, .tup e2 (rep_pair rv ru)⟩
  · rw [zipD_len] at l
    have := rl.len
    have := rl2.len
    omega
theorem itok_zt (hK : K = N.K) {d1 d2 : D} {xs ys : List D} {p q : Addr} (h1 : seqItems d1 = some xs) (h2 : seqItems d2 = some ys) (t1 : isTup d1 = true) (t2 : isTup d2 = true) : ItOk N (RZ.ItzT K p q) [(d1, .ref p), (d2, .ref q)] (zipD xs ys) := by
  intro I H hs i
  obtain ⟨p', vs, e, rl, _, hq⟩ := sq_items h1 (hs _ (List.mem_cons_self ..))
  cases e
  obtain ⟨p', us, e, rl2, _, hq2⟩ := sq_items h2 (hs _ (List.mem_cons_of_mem _ (List.mem_cons_self ..)))
  cases e
  have s1 : SqT K H p vs := by rw [hK]; exact hq t1
  have s2 : SqT K H q us := by rw [hK]; exact hq2 t2
  refine ⟨fun d hd => ?_, fun l => ⟨vs, us, s1, s2, ?_⟩⟩
  · obtain ⟨x, y, hx, hy, rfl⟩ := zipD_get hd
    obtain ⟨v, hv, rv⟩ := rl.get hx
    obtain ⟨u, hu, ru⟩ := rl2.get hy
    refine ⟨⟨vs, us, v, u, s1, s2, hv, hu⟩, fun y H' ⟨T, x', y', e1, e2, e3, e4, e5⟩ => ?_⟩
    have a1 := e4 vs s1
    have a2 := e5 us s2
    rw [hv] at a1
    rw [hu] at a2
    cases a1
    cases a2
    subst e1 e3
    exact ⟨_, .tup e2 (rep_pair rv ru)⟩
  · rw [zipD_len] at l
    have := rl.len
    have := rl2.len
    omega
theorem itok_e (hK : K = N.K) {d : D} {ds : List D} {p : Addr} (h : seqItems d = some ds) (ht : isTup d = false) : ItOk N (Ite K p) [(d, .ref p)] (enumD 0 ds) := by
  intro I H hs i
  obtain ⟨p', vs, e, rl, hq, _⟩ := sq_items h (hs _ (List.mem_cons_self ..))
  cases e
  have q : SqL K H p vs := by rw [hK]; exact hq ht
  refine ⟨fun x hx => ?_, fun l => ⟨vs, q, by rw [enumD_len] at l; rw [rl.len]; exact l⟩⟩
  obtain ⟨y, hy, rfl⟩ := enumD_get hx
  obtain ⟨v, hv, rv⟩ := rl.get hy
  refine ⟨⟨vs, v, q, hv⟩, fun z H' ⟨T, x, e1, e2, e3, e4⟩ => ?_⟩
  have a1 := e4 vs q
  rw [hv] at a1
  cases a1
  subst e1 e3
  have e0 : (0 : Int) + (i : Int) = (i : Int) := by omega
  rw [e0]
  exact ⟨_, .tup e2 (rep_pair (d1 := .int i) rfl rv)⟩
end
end Ev
set_option Elab.async false
set_option linter.all false
set_option autoImplicit false
set_option maxRecDepth 100000
set_option maxHeartbeats 1000000
namespace Ev
open PySem PySem.Spec PyProof.Rows L2
/-! ### calls that are not written as such, read -/
theorem callx_all {C : Cn} {h : Nat} {os : Os} {ts : List TE} (hr : ∀ σ H K, tOs C os σ H K → tAllN (flags os) ts σ H K) (hn : noN os = true) (m : ∀ t ∈ ts, MonoE t) :
    ∀ σ H Q, tE C (.call h os) σ H Q → tAll ts σ H fun vs H2 => spOf C.N (C.G.fn h) vs H2 Q fun cls d H' => C.W cls d σ H' := by
  intro σ H Q hh
  refine tAllN_all hn σ H (fun vs H2 => spOf C.N (C.G.fn h) vs H2 Q fun cls d H' => C.W cls d σ H') m (hr σ H _ ?_)
  obtain ⟨Θ, I, τ, ρ, δ, P, Xx, s, w, kk, x⟩ := hh
  refine ⟨Θ, I, τ, ρ, δ, _, Xx, s, w, fun l ρ' τ' δ' vs H' I' s' ov ⟨as, ha, nd, hf⟩ => ?_, x⟩
  obtain ⟨js, A, hl, hw⟩ := args_at s' ov ha nd
  refine ⟨I', as, _, _, s'.r.args A, A.lv.trans A.la.symm, ?_, hf, fun r outs p v H2 I2 wc ec ok rc hlc hl2 ho => ?_, fun y outs p cls d H2 I2 wc ec rc hlc hl2 ho rx => ?_⟩
  · intro a ma
    obtain ⟨j, hj⟩ := List.getElem?_of_mem ma
    have lj : j < js.length := by rw [← A.la]; exact (List.getElem?_eq_some_iff.mp hj).1
    obtain ⟨f, d, v, e1, e2, _, _⟩ := A.at_ j js[j] (List.getElem?_eq_getElem lj)
    rw [hj] at e2
    cases e2
    show argF f = .imm ∨ argF f = .par
    cases f <;> first | exact .inl rfl | exact .inr rfl
  · exact kk r _ v H2 I2 ok (s'.backR s.l2 A hl hw ha nd rc hlc hl2 ho ok) p
  · exact x y _ cls d H2 I2 (s'.backX s.l2 A hl hw ha nd rc ho) rx p
/-- the classes of an operator -/
def OkIn (N : Nm) (cs : List Nat) (Ca : Addr) : Prop := ∃ c, c ∈ cs ∧ N.ok c ∧ Ca = N.cls c
theorem obj_at {N : Nm} {I : Addr → Prop} {H : Hp} {c : Nat} {fs : List (Nat × D)} {v : V} {f : Fl} (h : RepV N I H (f, .obj c fs) v) : N.ok c ∧ ∃ p dx hs, v = .ref p ∧ H p = some (.ins (N.cls c) dx hs) ∧ RepF N I H fs hs ∧ ∀ q ∈ fs, N.has c q.1 := by
  obtain ⟨⟨ok, has⟩, p, dx, hs, e, hp, rf⟩ := h.peek
  exact ⟨ok, p, dx, hs, e, hp, rf, has⟩
theorem sp_two {N : Nm} {T : Tr} {vs : List V} {H : Hp} {Q : VK} {E : XK} {cs : List Nat} (h : spOf N T vs H Q E) (hT : ∀ as Q X, T as Q X → TwoObj cs as) : ∃ x y, vs = [x, y] ∧ InsTwo (OkIn N cs) H x y := by
  obtain ⟨I, as, Q0, X0, r, lv, ok, ht, _, _⟩ := h
  obtain ⟨f1, f2, c, fs, gs, rfl, hc⟩ := hT _ _ _ ht
  obtain ⟨v1, e1, r1⟩ := r.rep 0 (f1, .obj c fs) rfl
  obtain ⟨v2, e2, r2⟩ := r.rep 1 (f2, .obj c gs) rfl
  match vs, lv with
  | [x, y], _ =>
    cases e1
    cases e2
    obtain ⟨o1, p, dx, hs, rfl, hp, _⟩ := obj_at r1
    obtain ⟨o2, q, dy, gs', rfl, hq, _⟩ := obj_at r2
    exact ⟨_, _, rfl, p, N.cls c, dx, hs, q, dy, gs', rfl, rfl, ⟨c, hc, o1, rfl⟩, hp, hq⟩
theorem sp_one {N : Nm} {T : Tr} {vs : List V} {H : Hp} {Q : VK} {E : XK} {cs : List Nat} (h : spOf N T vs H Q E) (hT : ∀ as Q X, T as Q X → OneObj cs as) : ∃ x, vs = [x] ∧ ∃ p C dx fs, x = .ref p ∧ OkIn N cs C ∧ H p = some (.ins C dx fs) := by
  obtain ⟨I, as, Q0, X0, r, lv, ok, ht, _, _⟩ := h
  obtain ⟨f1, c, fs, rfl, hc⟩ := hT _ _ _ ht
  obtain ⟨v1, e1, r1⟩ := r.rep 0 (f1, .obj c fs) rfl
  match vs, lv with
  | [x], _ =>
    cases e1
    obtain ⟨o1, p, dx, hs, rfl, hp, _⟩ := obj_at r1
    exact ⟨_, rfl, p, N.cls c, dx, hs, rfl, ⟨c, hc, o1, rfl⟩, hp⟩
theorem bin_read2 {C : Cn} {h : Nat} {os : Os} {ta tb : TE} {cs : List Nat} (hT : ∀ as Q X, C.G.fn h as Q X → TwoObj cs as) (hr : ∀ σ H K, tOs C os σ H K → tAllN (flags os) [ta, tb] σ H K) (hn : noN os = true) (ma : MonoE ta) (mb : MonoE tb) :
    ∀ σ H Q, tE C (.call h os) σ H Q → tBinX (OkIn C.N cs) (spOf C.N (C.G.fn h)) C.W ta tb σ H Q := by
  intro σ H Q hh
  have m : ∀ t ∈ [ta, tb], MonoE t := fun t ht => by
    rcases List.mem_cons.mp ht with e | ht
    · rw [e]; exact ma
    · rw [List.mem_singleton.mp ht]; exact mb
  have h1 := callx_all hr hn m σ H Q hh
  refine ma σ H _ _ (fun x H1 h2 => mb σ H1 _ _ (fun y H2 h3 => ?_) h2) h1
  have h3 : spOf C.N (C.G.fn h) [x, y] H2 Q fun cls d H' => C.W cls d σ H' := h3
  obtain ⟨x', y', e, it⟩ := sp_two h3 hT
  cases e
  exact ⟨it, h3⟩
theorem one_read2 {C : Cn} {h : Nat} {os : Os} {ta : TE} {cs : List Nat} (hT : ∀ as Q X, C.G.fn h as Q X → OneObj cs as) (hr : ∀ σ H K, tOs C os σ H K → tAllN (flags os) [ta] σ H K) (hn : noN os = true) (ma : MonoE ta) :
    ∀ σ H Q, tE C (.call h os) σ H Q → tOneX (OkIn C.N cs) (spOf C.N (C.G.fn h)) C.W ta σ H Q := by
  intro σ H Q hh
  have m : ∀ t ∈ [ta], MonoE t := fun t ht => by rw [List.mem_singleton.mp ht]; exact ma
  have h1 := callx_all hr hn m σ H Q hh
  refine ma σ H _ _ (fun x H1 h2 => ?_) h1
  have h2 : spOf C.N (C.G.fn h) [x] H1 Q fun cls d H' => C.W cls d σ H' := h2
  obtain ⟨x', e, it⟩ := sp_one h2 hT
  cases e
  exact ⟨it, h2⟩
/-- an own == as a test: its value is a bool -/
theorem eq_read2 {C : Cn} {h : Nat} {os : Os} {ta tb : TE} {cs : List Nat} (hT : ∀ as Q X, C.G.fn h as Q X → TwoObj cs as ∧ C.G.fn h as (fun r o => Q r o ∧ ∃ b, r = (.imm, .bl b)) X) (hr : ∀ σ H K, tOs C os σ H K → tAllN (flags os) [ta, tb] σ H K) (hn : noN os = true) (ma : MonoE ta) (mb : MonoE tb) :
    ∀ σ H Q, tB C (.t (.call h os)) σ H Q → tBinX (OkIn C.N cs) (spOf C.N (C.G.fn h)) C.W ta tb σ H fun x H' => ∃ c, x = .bl c ∧ Q c H' := by
  intro σ H Q ⟨Θ, I, τ, ρ, δ, P, Xx, s, w, kk, x⟩
  have m : ∀ t ∈ [ta, tb], MonoE t := fun t ht => by
    rcases List.mem_cons.mp ht with e | ht
    · rw [e]; exact ma
    · rw [List.mem_singleton.mp ht]; exact mb
  have w : wpOs C.G os ρ (fun l ρ' => ∃ vs, argsOf ρ' l = some vs ∧ nodupB (ownIx ρ' l) = true ∧ C.G.fn h vs (fun r outs => ∃ k, truthD r.2 = some k ∧ P k (putOuts ρ' l outs)) (fun x outs => Xx x (putOuts ρ' l outs))) Xx := w
  have h1 := tAllN_all hn σ H (fun vs H2 => spOf C.N (C.G.fn h) vs H2 (fun x H' => ∃ c, x = .bl c ∧ Q c H') fun cls d H' => C.W cls d σ H') m (hr σ H _ ⟨Θ, I, τ, ρ, δ, _, Xx, s, w, fun l ρ' τ' δ' vs H' I' s' ov ⟨as, ha, nd, hf⟩ => by
    obtain ⟨js, A, hl, hw⟩ := args_at s' ov ha nd
    refine ⟨I', as, _, _, s'.r.args A, A.lv.trans A.la.symm, ?_, (hT _ _ _ hf).2, fun r outs ⟨⟨kb, hk, p⟩, b, er⟩ v H2 I2 wc ec ok rc hlc hl2 ho => ?_, fun y outs p cls d H2 I2 wc ec rc hlc hl2 ho rx => ?_⟩
    · intro a ma
      obtain ⟨j, hj⟩ := List.getElem?_of_mem ma
      have lj : j < js.length := by rw [← A.la]; exact (List.getElem?_eq_some_iff.mp hj).1
      obtain ⟨f, d, v, e1, e2, _, _⟩ := A.at_ j js[j] (List.getElem?_eq_getElem lj)
      rw [hj] at e2
      cases e2
      show argF f = .imm ∨ argF f = .par
      cases f <;> first | exact .inl rfl | exact .inr rfl
    · subst er
      have ek : some b = some kb := hk
      cases ek
      have s2 := s'.backR s.l2 A hl hw ha nd rc hlc hl2 ho ok
      have top := s2.top
      exact ⟨_, (repV_imm rfl).mp top, kk _ _ H2 I2 s2.pop p⟩
    · exact x y _ cls d H2 I2 (s'.backX s.l2 A hl hw ha nd rc ho) rx p, x⟩)
  refine ma σ H _ _ (fun x1 H1 h2 => mb σ H1 _ _ (fun y1 H2 h3 => ?_) h2) h1
  have h3 : spOf C.N (C.G.fn h) [x1, y1] H2 (fun x H' => ∃ c, x = .bl c ∧ Q c H') fun cls d H' => C.W cls d σ H' := h3
  obtain ⟨x', y', e, it⟩ := sp_two h3 fun as Q X z => (hT as Q X z).1
  cases e
  exact ⟨it, h3⟩
/-- a property -/
theorem prop_read2 {C : Cn} {h : Nat} {os : Os} {ta : TE} {cs : List Nat} (hT : ∀ as Q X, C.G.fn h as Q X → OneObj cs as ∧ C.G.fn h as Q fun _ _ => False) (hr : ∀ σ H K, tOs C os σ H K → tAllN (flags os) [ta] σ H K) (hn : noN os = true) (ma : MonoE ta) :
    ∀ σ H Q, tE C (.call h os) σ H Q → tPropX (OkIn C.N cs) (spOf C.N (C.G.fn h)) ta σ H Q := by
  intro σ H Q hh
  have h1 := one_read2 (fun as Q X z => (hT as Q X z).1) hr hn ma σ H Q hh
  refine ma σ H _ _ (fun x H1 ⟨a, I, as, Q0, X0, r, lv, ok, ht, kq, kx⟩ => ?_) h1
  exact ⟨a, I, as, Q0, _, r, lv, ok, (hT _ _ _ ht).2, kq, fun _ _ z => z.elim⟩
/-- o.m(..) -/
theorem methx_read {C : Cn} {h : Nat} {cs : List Nat} {t : T} {os : Os} {m : Str} {ts1 ts2 : List TE} (hfl : ∀ c, c ∈ cs → C.N.ok c → ∀ i, C.N.has c i → C.N.fld i ≠ m) (hr : ∀ σ H K, tOs C os σ H K → tAllN (flags os) (ts1 ++ ts2) σ H K) (hn : noN os = true) (m1 : ∀ t ∈ ts1, MonoE t) (m2 : ∀ t ∈ ts2, MonoE t) :
    ∀ σ H Q, tE C (.meth h cs t os) σ H Q → tMethX (OkIn C.N cs) m ts1.length ts2.length (spOf C.N (C.G.fn h)) C.W (tE C t) (tAll ts1) (tAll ts2) σ H Q := by
  intro σ H Q ⟨Θ, I, τ, ρ, δ, P, Xx, s, w, kk, x⟩
  have mm : ∀ t ∈ ts1 ++ ts2, MonoE t := fun t ht => (List.mem_append.mp ht).elim (m1 t) (m2 t)
  refine ⟨Θ, I, τ, ρ, δ, _, Xx, s, w, fun a ρ1 v1 H1 I1 ok1 s1 ⟨⟨c, fs, ea, hc⟩, w1⟩ => ?_, x⟩
  have top : RepV C.N I1 H1 a v1 := s1.top
  subst ea
  obtain ⟨okc, p, dx, hs, ev, hp, rf, has⟩ := obj_at top
  refine ⟨p, C.N.cls c, dx, hs, ev, ⟨c, hc, okc, rfl⟩, hp, repF_none rf fun q hq => hfl c hc okc _ (has q hq), ?_⟩
  refine tAll_app m1 m2 σ H1 (fun vs H2 => spOf C.N (C.G.fn h) (v1 :: vs) H2 Q fun cls d H' => C.W cls d σ H') (tAllN_all hn σ H1 _ mm (hr σ H1 _ ?_))
  refine ⟨Θ, I1, τ ++ [v1], ρ1, δ ++ [(.imm, .obj c fs)], _, Xx, s1, w1, fun l ρ' τ' δ' vs H' I' s' ov ⟨as, ha, nd, hf⟩ => ?_, x.pop v1 _⟩
  have e1 : τ ++ [v1] ++ τ' = τ ++ (v1 :: τ') := by simp
  have e2 : δ ++ [((.imm, .obj c fs) : Val)] ++ δ' = δ ++ ((.imm, .obj c fs) :: δ') := by simp
  rw [e1, e2] at s' ov
  have ov2 : OpdsV σ (τ ++ (v1 :: τ')) (δ ++ ((.imm, .obj c fs) :: δ')) τ.length (.x (.imm, .obj c fs) :: l) (v1 :: vs) := by
    refine ⟨v1, vs, τ.length, rfl, Nat.le_refl _, by simp, by rw [s.l2]; simp, ?_⟩
    have e3 : (τ ++ [v1]).length = τ.length + 1 := by simp
    rw [e3] at ov
    exact ov
  obtain ⟨js, A, hl, hw⟩ := args_at s' ov2 ha nd
  refine ⟨I', as, _, _, s'.r.args A, A.lv.trans A.la.symm, ?_, hf, fun r outs p v H2 I2 wc ec ok rc hlc hl2 ho => ?_, fun y outs p cls d H2 I2 wc ec rc hlc hl2 ho rx => ?_⟩
  · intro a ma
    obtain ⟨j, hj⟩ := List.getElem?_of_mem ma
    have lj : j < js.length := by rw [← A.la]; exact (List.getElem?_eq_some_iff.mp hj).1
    obtain ⟨f, d, v, e1, e2, _, _⟩ := A.at_ j js[j] (List.getElem?_eq_getElem lj)
    rw [hj] at e2
    cases e2
    show argF f = .imm ∨ argF f = .par
    cases f <;> first | exact .inl rfl | exact .inr rfl
  · exact kk r _ v H2 I2 ok (s'.backR s.l2 A hl hw ha nd rc hlc hl2 ho ok) p
  · exact x y _ cls d H2 I2 (s'.backX s.l2 A hl hw ha nd rc ho) rx p
section
variable {N : Nm} {Θ : Th} {I I' : Addr → Prop} {σ : L2.St} {τ τ' : List V} {H H' : Hp} {ρ : Rho} {δ δ' : List Val}
/-- a name's own list is at hand, the name is no more -/
theorem S0.take (s : S0 N Θ I σ τ H ρ δ) {i : Nat} {d : D} {v : V} (h : ρ.at i = some (.own, d)) (hv : σ[i]? = some (some v)) : S0 N Θ I σ (τ ++ [v]) H (ρ.put i none) (δ ++ [(.own, d)]) := by
  have li := at_lt h
  have l1 := s.l1
  have l2 := s.l2
  refine ⟨?_, by rw [put_len]; exact s.l1, by simp [l2], by rw [put_len]; exact s.lp⟩
  rw [snoc_map, snoc_map, ← List.append_assoc, ← List.append_assoc]
  have ee : (ρ.put i none ++ δ.map some).length = ρ.length + δ.length := by simp [put_len]
  have ew : (σ ++ τ.map some).length = ρ.length + δ.length := by simp [l1, l2]
  have e0 : (ρ ++ δ.map some)[i]? = some (some (.own, d)) := get_app (at_get.mp h)
  have w0 : (σ ++ τ.map some)[i]? = some (some v) := get_app hv
  have below : ∀ j : Nat, j < ρ.length + δ.length → j ≠ i → (ρ.put i none ++ δ.map some)[j]? = (ρ ++ δ.map some)[j]? := fun j hj hne => by
    rw [← put_app _ _ _ _ li, List.getElem?_set_ne (Ne.symm hne)]
  have notI : ∀ (j : Nat) (a : Val), (ρ.put i none ++ δ.map some)[j]? = some (some a) → j ≠ i := fun j a h e => by
    subst e
    rw [← put_app _ _ _ _ li, List.getElem?_set_self (by simp; omega)] at h
    cases h
  have cases_ : ∀ (j : Nat) (a : Val), (ρ.put i none ++ δ.map some ++ [some (.own, d)])[j]? = some (some a) → (j < ρ.length + δ.length ∧ j ≠ i ∧ (ρ ++ δ.map some)[j]? = some (some a)) ∨ (j = ρ.length + δ.length ∧ a = (.own, d)) := fun j a h => by
    by_cases c : j < ρ.length + δ.length
    · rw [app_get (by omega)] at h
      have n := notI j a h
      rw [below j c n] at h
      exact .inl ⟨c, n, h⟩
    · rw [List.getElem?_append_right (by omega), ee] at h
      have e : j - (ρ.length + δ.length) = 0 := by
        have := (List.getElem?_eq_some_iff.mp h).1
        simp at this
        omega
      rw [e] at h
      have h : some (some ((Fl.own, d) : Val)) = some (some a) := h
      cases h
      exact .inr ⟨by omega, rfl⟩
  refine R.map s.r (fun j => if j = ρ.length + δ.length then i else j) (fun j a h => ?_) (fun j k a b h1 h2 e => ?_) fun j p hp => ?_
  · rcases cases_ j a h with ⟨c, n, h⟩ | ⟨c, rfl⟩
    · rw [if_neg (by omega)]
      exact ⟨h, app_get (by omega)⟩
    · rw [if_pos c, e0, w0, c, ← ew]
      exact ⟨rfl, by simp⟩
  · rcases cases_ j a h1 with ⟨c, n, _⟩ | ⟨c, _⟩
    · rcases cases_ k b h2 with ⟨c', n', _⟩ | ⟨c', _⟩
      · rw [if_neg (by omega), if_neg (by omega)] at e
        exact e
      · rw [if_neg (by omega), if_pos c'] at e
        exact (n e).elim
    · rcases cases_ k b h2 with ⟨c', n', _⟩ | ⟨c', _⟩
      · rw [if_pos c, if_neg (by omega)] at e
        exact (n' e.symm).elim
      · omega
  · have lj : j < ρ.length := by
      have := (List.getElem?_eq_some_iff.mp hp).1
      have := s.lp
      omega
    have c : j ≠ i := fun z => by
      subst z
      obtain ⟨_, b, e1, e2⟩ := s.r.pin j p hp
      rw [e0] at e1
      cases e1
      rcases e2 with e2 | e2
      · cases e2
      · cases e2.1
    rw [app_get (l := ρ.put i none ++ δ.map some) (by omega), app_get (l := σ ++ τ.map some) (by omega), below j (by omega) c]
    exact ⟨rfl, rfl⟩
end
end Ev
set_option Elab.async false
set_option linter.all false
set_option autoImplicit false
set_option maxRecDepth 100000
set_option maxHeartbeats 1000000
namespace Ev
open PySem PySem.Spec PyProof.Rows L2
/-! ### the checker -/
/-- an operation's operands in the text -/
def methN : Op → Option Str
  | .stripC => some "strip"
  | .startsw => some "startswith"
  | .part => some "partition"
  | _ => none
def methOs : Os → Bool
  | .v _ (.e (.cst _) .nil) => true
  | .v _ (.e (.glo _) .nil) => true
  | _ => false
def isName : Expr → Bool
  | .Name _ _ => true
  | _ => false
def fldB (cf : Cf) : Op → Str → Bool
  | .fld i, n => decide (cf.fl i = some n)
  | _, _ => false
def opArgs (cf : Cf) (sc : Scope) (f : Op) (os : Os) (e : Expr) : Option (List Expr) :=
  let fl := flags os
  match e with
  | .Call (.Attribute o m apos) [e] [] cpos => if decide (methN f = some m) && ((apos.endLine == cpos.line) && (methOs os && (isName o && notStar e))) then some [o, e] else none
  | .BinOp a o b _ => if binB f o && fl.all (!·) then some [a, b] else none
  | .Attribute a n _ => if fldB cf f n && (fl.all (!·) && notSup a) then some [a] else none
  | .Compare a [o] [b] _ =>
    (match o, b with
    | .Is, .Constant .none _ _ => if decide (f = .isN) && fl.all (!·) then some [a] else none
    | .IsNot, .Constant .none _ _ => if decide (f = .notN) && fl.all (!·) then some [a] else none
    | o, b => if cmpB f o && (fl.all (!·) && !behindInMarks o b) then some [a, b] else none)
  | .UnaryOp .USub a _ => if decide (f = .neg) && fl.all (!·) then some [a] else none
  | .Subscript a (.Slice (some l) (some u) none _) _ => if (decide (f = .slc true true) || decide (f = .slcS true true)) && decide (fl = [false, true, true]) then some [a, l, u] else none
  | .Subscript a (.Slice (some l) none none _) _ => if (decide (f = .slc true false) || decide (f = .slcS true false)) && decide (fl = [false, true]) then some [a, l] else none
  | .Subscript a (.Slice none (some u) none _) _ => if (decide (f = .slc false true) || decide (f = .slcS false true)) && decide (fl = [false, true]) then some [a, u] else none
  | .Subscript a (.Slice none none none _) _ => if decide (f = .slc false false) && decide (fl = [false]) then some [a] else none
  | .Subscript a b _ => if decide (f = .idx) && (fl.all (!·) && notSlice b) then some [a, b] else none
  | .Call (.Name x _) es [] _ =>
    (match f with
    | .isi ts => (match ts, es with
      | [t], [a, .Name y p] => if x == ("isinstance" : Str) && (glB sc x && (fl.all (!·) && (notStar a && tyB cf sc t (.Name y p)))) then some [a] else none
      | ts, [a, .Tuple cs _ _] => if x == ("isinstance" : Str) && (glB sc x && (fl.all (!·) && (notStar a && (decide (cs.length ≤ 1000) && tysB cf sc ts cs)))) then some [a] else none
      | _, _ => none)
    | f => (match es with
      | e :: es => if bltB f x && (glB sc x && fl.all (!·)) then some (e :: es) else if decide (f = .gcd) && (decide (cf.gcd = true) && (x == ("gcd" : Str) && (glB sc x && fl.all (!·)))) then some (e :: es) else none
      | [] => none))
  | _ => none
/-- a call's arguments in the text -/
def callArgs (cf : Cf) (sc : Scope) (h : Nat) (fl : List Bool) (e : Expr) : Option (List Expr) :=
  match e with
  | .Call (.Name x _) es kws _ => (match kwNames kws with
    | some ks => if decide (cf.sh h = some (x, es.length, ks)) && (glB sc x && (plainN x && fl.all (!·))) then some (es ++ kws.map (·.value)) else none
    | none => none)
  | .Call (.Attribute (.Name x _) m apos) es kws pos => (match kwNames kws with
    | some ks => if decide ((cf.ok h).map (·.1) = some (.stat x m es.length ks)) && (glB sc x && (plainN x && (fl.all (!·) && ((apos.endLine == pos.line) && decide (es.length + kws.length < 29))))) then some (es ++ kws.map (·.value)) else none
    | none => none)
  | .BinOp a o b _ => if decide ((cf.ok h).map (·.1) = some (.bin o)) && fl.all (!·) then some [a, b] else none
  | .Compare a [.Eq] [b] _ => if decide ((cf.ok h).map (·.1) = some .eq) && fl.all (!·) then some [a, b] else none
  | .UnaryOp .USub a _ => if decide ((cf.ok h).map (·.1) = some .neg) && fl.all (!·) then some [a] else none
  | .Attribute a x _ => if decide ((cf.ok h).map (·.1) = some (.prop x)) && (fl.all (!·) && notSup a) then some [a] else none
  | _ => none
/-- a method's call in the text: the receiver, the arguments -/
def methArgs (cf : Cf) (h : Nat) (cs : List Nat) (fl : List Bool) (e : Expr) : Option (Expr × List Expr) :=
  match e with
  | .Call (.Attribute o m apos) es kws pos => (match kwNames kws with
    | some ks => if decide (cf.ms h = some (m, cs, es.length, ks)) && (fl.all (!·) && ((apos.endLine == pos.line) && (decide (es.length + kws.length < 29) && notSup o))) then some (o, es ++ kws.map (·.value)) else none
    | none => none)
  | _ => none
def ownP (cf : Cf) (own : List Nat) : List (Str × Nat) := own.map fun i => (cf.N[i]?.getD "", i)
def blkB (cf : Cf) (sc scope : Scope) (own : List Nat) : Bool :=
  (match scope.kind with
    | .function => true
    | _ => false) && (scope.names.all (fun y => decide (scope.names.lookup y.1 = some y.2)) && (own.all (fun i => (cf.N[i]?).isSome) &&
  (scope.names.all (fun y => decide (y.2 ≠ .free) || (decide (sc.names.lookup y.1 = some .cell) || decide (sc.names.lookup y.1 = some .free))) &&
  scope.names.all (fun y => (decide (y.2 ≠ .local) && decide (y.2 ≠ .cell)) || (decide (y.1 ∈ (ownP cf own).map (·.1)) || decide (y.1 ∉ cf.N))))))
def notSet : Expr → Bool
  | .Set _ _ _ => false
  | _ => true
def isTupE : Expr → Bool
  | .Tuple _ _ _ => true
  | _ => false
def ifsOf (f : Expr → Bool) (t : Bool) : List Expr → Bool
  | [] => t
  | [q] => f q
  | _ => false
def isTT : B → Bool
  | .tt => true
  | _ => false
def cmpT : T → Bool
  | .op f _ => isCmpOp f
  | .call _ _ => true
  | _ => false
def notCmpE : Expr → Bool
  | .Compare _ _ _ _ => false
  | _ => true
mutual
def chkE (cf : Cf) (sc : Scope) : T → Expr → Bool
  | .imm t, e => notCmpE e && chkE cf sc t e
  | .pure t, e => notCmpE e && chkE cf sc t e
  | .take i, .Name x _ => nameB cf sc i x
  | .var i, .Name x _ => nameB cf sc i x
  | .cst d, .Constant c _ _ => cstB d c
  | .glo g, .Name x _ => decide (cf.cn g = some x) && (glB sc x && plainN x)
  | .op f os, e => (match opArgs cf sc f os e with
      | some es => chkOs cf sc os es
      | none => false)
  | .call h os, e => (match callArgs cf sc h (flags os) e with
      | some es => chkOs cf sc os es
      | none => false)
  | .meth h cs t os, e => (match methArgs cf h cs (flags os) e with
      | some (o, es) => chkE cf sc t o && chkOs cf sc os es
      | none => false)
  | .tup ts, .Tuple es _ _ => decide (lenT ts ≤ 16777216) && chkTs cf sc ts es
  | .lst ts, .List es _ => decide (lenT ts ≤ 16777216) && chkTs cf sc ts es
  | .ife c a b, .IfExp c' a' b' _ => chkB cf sc c c' && (chkE cf sc a a' && chkE cf sc b b')
  | .and_ a b, .BoolOp .And (a' :: b' :: es) p => chkE cf sc a a' && chkE cf sc b (if es.isEmpty then b' else .BoolOp .And (b' :: es) p)
  | .or_ a b, .BoolOp .Or (a' :: b' :: es) p => chkE cf sc a a' && chkE cf sc b (if es.isEmpty then b' else .BoolOp .Or (b' :: es) p)
  | .not_ a, .UnaryOp .Not a' _ => chkE cf sc a a'
  | .comp own tg it c e, .ListComp elt [⟨tg', iter, ifs, as⟩] scope _ => decide (as = 0) && (blkB cf sc scope own && ((tgIx tg).all (fun i => decide (i ∈ own)) && (notSet iter && (chkTg cf scope tg tg' && (chkIt cf sc it tg' iter && (
      ifsOf (fun q => chkB cf (relS scope sc) c q) (isTT c) ifs && chkE cf (relS scope sc) e elt))))))
  | .fmt ts, .JoinedStr (v1 :: v2 :: rest) _ => chkF cf sc ts (v1 :: v2 :: rest)
  | _, _ => false
def chkF (cf : Cf) (sc : Scope) : Ts → List Expr → Bool
  | .nil, [] => true
  | .cons t r, .FormattedValue e c none _ :: es => decide (c = -1) && (chkE cf sc t e && chkF cf sc r es)
  | .cons (.cst (.str z)) r, .Constant (.str z') _ _ :: es => decide (z = z') && chkF cf sc r es
  | _, _ => false
def chkOs (cf : Cf) (sc : Scope) : Os → List Expr → Bool
  | .nil, [] => true
  | .v i r, .Name x _ :: es => nameB cf sc i x && chkOs cf sc r es
  | .e t r, e :: es => notStar e && (chkE cf sc t e && chkOs cf sc r es)
  | .n t r, e :: es => notStar e && (chkE cf sc t e && chkOs cf sc r es)
  | _, _ => false
def chkTs (cf : Cf) (sc : Scope) : Ts → List Expr → Bool
  | .nil, [] => true
  | .cons t r, e :: es => notStar e && (chkE cf sc t e && chkTs cf sc r es)
  | _, _ => false
def chkB (cf : Cf) (sc : Scope) : B → Expr → Bool
  | .t t, e => (plainT e || (isCmp e && cmpT t)) && chkE cf sc t e
  | .look i, .Name x _ => nameB cf sc i x
  | .and_ a b, .BoolOp .And (a' :: b' :: es) p => chkB cf sc a a' && (if es.isEmpty then chkB cf sc b b' else chkB cf sc b (.BoolOp .And (b' :: es) p))
  | .or_ a b, .BoolOp .Or (a' :: b' :: es) p => chkB cf sc a a' && (if es.isEmpty then chkB cf sc b b' else chkB cf sc b (.BoolOp .Or (b' :: es) p))
  | .not_ a, .UnaryOp .Not a' _ => chkB cf sc a a'
  | _, _ => false
def chkIt (cf : Cf) (sc : Scope) : It → Expr → Expr → Bool
  | .seq t, _, e => chkE cf sc t e
  | .range os, _, .Call (.Name x _) [a] [] _ => x == ("range" : Str) && (glB sc x && ((flags os).all (!·) && chkOs cf sc os [a]))
  | .range os, _, .Call (.Name x _) [a, b] [] _ => x == ("range" : Str) && (glB sc x && ((flags os).all (!·) && chkOs cf sc os [a, b]))
  | .chars t, _, e => chkE cf sc t e
  | .zip t u, tg, .Call (.Name x _) [a, b] [] _ => x == ("zip" : Str) && (glB sc x && (isTupE tg && (notStar a && (notStar b && (chkE cf sc t a && chkE cf sc u b)))))
  | .enum t, tg, .Call (.Name x _) [a] [] _ => x == ("enumerate" : Str) && (glB sc x && (isTupE tg && (notStar a && chkE cf sc t a)))
  | _, _, _ => false
end
/-! ### small readings -/
structure LoopOk (X : Cx) : Prop where
  fnT : ∀ x, X.fn x = true
section
variable {cf : Cf} {C : Cn} {k : Nat} {X : Cx} {sc : Scope}
theorem vis_of {x : Str} (h : visB sc x = true) : Vis sc x := by
  unfold visB at h
  cases q : sc.names.lookup x with
  | none => rw [q] at h; cases h
  | some kd =>
    rw [q] at h
    cases kd with
    | «local» => exact .inl q
    | cell => exact .inr (.inl q)
    | free => exact .inr (.inr q)
    | _ => cases h
theorem gl_of {x : Str} (hs : X.env.scope = sc) (h : glB sc x = true) : Gl X x := by
  unfold glB at h
  show X.env.kindOf x = some .globalImplicit
  have e : X.env.kindOf x = sc.names.lookup x := by rw [← hs]; rfl
  rw [e]
  cases q : sc.names.lookup x with
  | none => rw [q] at h; cases h
  | some kd =>
    rw [q] at h
    cases kd with
    | globalImplicit => rfl
    | _ => cases h
theorem plain_of {x : Str} (h : plainN x = true) : (x == ("__debug__" : Str)) = false ∧ (x == ("__classdict__" : Str)) = false := by
  unfold plainN at h
  simp only [Bool.and_eq_true, Bool.not_eq_true'] at h
  exact ⟨h.1, h.2.1⟩
theorem name_of {i : Nat} {x : Str} (h : nameB cf sc i x = true) : cf.N[i]? = some x ∧ visB sc x = true ∧ plainN x = true := by
  unfold nameB at h
  simp only [Bool.and_eq_true, decide_eq_true_eq] at h
  exact ⟨h.1, h.2.1, h.2.2⟩
theorem pe_nm (xc : XC cf C k X) (hs : X.env.scope = sc) {i : Nat} {x : Str} {p : Pos} (h : nameB cf sc i x = true) : PE X (.Name x p) (tVar i) := by
  obtain ⟨h1, h2, h3⟩ := name_of h
  obtain ⟨d1, d2⟩ := plain_of h3
  exact pe_var (by rw [xc.N]; exact h1) (by rw [hs]; exact vis_of h2) d1 d2
/-- a name, handed on -/
theorem var_read {i : Nat} : ∀ σ H Q, tE C (.var i) σ H Q → tVar i σ H Q := by
  intro σ H Q ⟨Θ, I, τ, ρ, δ, P, Xx, s, ⟨a, ha, hp⟩, kk, x⟩
  obtain ⟨I', _, s', v, hv, r⟩ := s.leak ha
  exact ⟨v, hv, kk _ _ v H I' (.inl rfl) (s'.step (.old r)) hp⟩
theorem pe_cst {d : D} {c : Const} {j : Nat} {p : Pos} (h : cstB d c = true) : PE X (.Constant c j p) (tE C (.cst d)) := by
  have rd : ∀ (v : V), (∀ (I : Addr → Prop) (H : Hp), Rep C.N I H d v) → ∀ σ H Q, tE C (.cst d) σ H Q → tC v σ H Q := fun v hr σ H Q ⟨Θ, I, τ, ρ, δ, P, Xx, s, w, kk, x⟩ =>
    kk (.imm, d) ρ v H I (.inl rfl) (s.step (.old (hr I H))) w
  cases d <;> cases c <;> first
    | (cases h; done)
    | skip
  · exact PE.imp pe_non (rd .non fun _ _ => rfl)
  · rename_i a b
    have h : (a == b) = true := h
    have e : a = b := by simpa using h
    subst e
    exact PE.imp pe_bl (rd (.bl a) fun _ _ => rfl)
  · rename_i a b
    have h : decide (a = b) = true := h
    have e : a = b := by simpa using h
    subst e
    exact PE.imp pe_int (rd (.int a) fun _ _ => rfl)
  · rename_i a b
    have h : decide (a = b) = true := h
    have e : a = b := by simpa using h
    subst e
    exact PE.imp pe_str (rd (.str a) fun _ _ => rfl)
theorem pe_glo (xc : XC cf C k X) (hs : X.env.scope = sc) {g : Nat} {x : Str} {p : Pos} (h : (decide (cf.cn g = some x) && (glB sc x && plainN x)) = true) : PE X (.Name x p) (tE C (.glo g)) := by
  simp only [Bool.and_eq_true, decide_eq_true_eq] at h
  obtain ⟨h1, h2, h3⟩ := h
  refine ⟨fun pins s σ H Q I ⟨Θ, I0, τ, ρ, δ, P, Xx, st, ⟨d, hd, hp⟩, kk, x⟩ => ?_⟩
  obtain ⟨u, v, hm, rv, hr⟩ := xc.cst g _ d h1 hd
  exact (pe_glob (gl_of hs h2) hm rv (plain_of h3).1).run pins s σ H Q I (kk (.imm, d) ρ v H I0 (.inl rfl) (st.step (.old (hr I0 H))) hp)
end
end Ev
set_option Elab.async false
set_option linter.all false
set_option autoImplicit false
set_option maxRecDepth 100000
set_option maxHeartbeats 1000000
namespace Ev
open PySem PySem.Spec PyProof.Rows L2
section
variable {cf : Cf} {C : Cn} {k : Nat} {X : Cx} {sc : Scope} {f : Op} {os : Os} {ts : List TE} {a b e : Expr} {p pos : Pos} {ta tb tc : TE}
theorem p1 {R : Expr → TE → Prop} {a : Expr} {ts : List TE} (h : Paired R [a] ts) : ∃ t, ts = [t] ∧ R a t := by
  cases h with
  | cons x y => cases y; exact ⟨_, rfl, x⟩
theorem p2 {R : Expr → TE → Prop} {a b : Expr} {ts : List TE} (h : Paired R [a, b] ts) : ∃ t u, ts = [t, u] ∧ R a t ∧ R b u := by
  cases h with
  | cons x y => obtain ⟨u, rfl, hu⟩ := p1 y; exact ⟨_, u, rfl, x, hu⟩
theorem p3 {R : Expr → TE → Prop} {a b c : Expr} {ts : List TE} (h : Paired R [a, b, c] ts) : ∃ t u v, ts = [t, u, v] ∧ R a t ∧ R b u ∧ R c v := by
  cases h with
  | cons x y => obtain ⟨u, v, rfl, hu, hv⟩ := p2 y; exact ⟨_, u, v, rfl, x, hu, hv⟩
theorem s1 {e : Expr} {env : Env} (h : notStar e = true) : starEach [e] env = [(false, eval e env)] := star_cons h
theorem bin_sound (xc : XC cf C k X) {o : Operator} (h : binB f o = true) (hn : noN os = true) (ma : PEM X a ta) (mb : PEM X b tb) (hr : ∀ σ H K, tOs C os σ H K → tAllN (flags os) [ta, tb] σ H K) : PE X (.BinOp a o b pos) (tOpX C f os) := by
  obtain ⟨r, br⟩ := bin_ok xc.K h
  exact PE.imp (pe_op br.op ma.pe mb.pe) (bin_read br hr hn ma.mo mb.mo)
theorem units_of (xc : XC cf C k X) : X.A.units + 65 < cLine := by
  have h := xc.room.un
  omega
theorem cmp_sound (xc : XC cf C k X) {o : CmpOp} (h : cmpB f o = true) (hn : noN os = true) (hm : behindInMarks o b = false) (ma : PEM X a ta) (mb : PEM X b tb) (hr : ∀ σ H K, tOs C os σ H K → tAllN (flags os) [ta, tb] σ H K) :
    PE X (.Compare a [o] [b] pos) (tOpX C f os) ∧ PT X (.Compare a [o] [b] pos) (tTest (tOpX C f os)) := by
  obtain ⟨r, br⟩ := cmp_ok xc.K (units_of xc) h
  have rd := bin_read br hr hn ma.mo mb.mo
  exact ⟨PE.imp (pe_cmpR br.op ma.pe mb.pe hm) rd, PT.imp (pt_cmpR br.op ma.pe mb.pe hm) fun σ H Q q => rd σ H _ q⟩
theorem isN_sound {j : Nat} {q : Pos} (hn : noN os = true) (ma : PEM X a ta) (hr : ∀ σ H K, tOs C os σ H K → tAllN (flags os) [ta] σ H K) :
    PE X (.Compare a [.Is] [.Constant .none j q] pos) (tOpX C .isN os) ∧ PT X (.Compare a [.Is] [.Constant .none j q] pos) (tTest (tOpX C .isN os)) := by
  have rd := un_read (r := fun v H Q => Q (.bl (decide (v = .non))) H) (fun I H P Q d v h p q => ok_isN h p q) hr hn ma.mo
  exact ⟨PE.imp (pe_cmp (pc_isN ma.pe)) rd, PT.imp (pt_cmp (pc_isN ma.pe)) fun σ H Q q => rd σ H _ q⟩
theorem notN_sound {j : Nat} {q : Pos} (hn : noN os = true) (ma : PEM X a ta) (hr : ∀ σ H K, tOs C os σ H K → tAllN (flags os) [ta] σ H K) :
    PE X (.Compare a [.IsNot] [.Constant .none j q] pos) (tOpX C .notN os) ∧ PT X (.Compare a [.IsNot] [.Constant .none j q] pos) (tTest (tOpX C .notN os)) := by
  have rd := un_read (r := fun v H Q => Q (.bl (!decide (v = .non))) H) (fun I H P Q d v h p q => ok_notN h p q) hr hn ma.mo
  exact ⟨PE.imp (pe_cmp (pc_notN ma.pe)) rd, PT.imp (pt_cmp (pc_notN ma.pe)) fun σ H Q q => rd σ H _ q⟩
theorem neg_sound (hn : noN os = true) (ma : PEM X a ta) (hr : ∀ σ H K, tOs C os σ H K → tAllN (flags os) [ta] σ H K) : PE X (.UnaryOp .USub a pos) (tOpX C .neg os) :=
  PE.imp (pe_un un_neg ma.pe) (un_read (r := rU fun i => .int (-i)) (fun I H P Q d v h p q => ok_neg h p q) hr hn ma.mo)
theorem fld_sound (xc : XC cf C k X) {i : Nat} {n : Str} (hf : cf.fl i = some n) (hn : noN os = true) (hu : notSup a = true) (ma : PEM X a ta) (hr : ∀ σ H K, tOs C os σ H K → tAllN (flags os) [ta] σ H K) : PE X (.Attribute a n pos) (tOpX C (.fld i) os) := by
  have rd := un_read (r := rAt X.K n) (f := .fld i) (fun I H P Q d v h p q => by rw [xc.K]; exact ok_fld (xc.fld i n hf) h p q) hr hn ma.mo
  exact PE.imp (pe_at ma.pe (notSup_base hu)) rd
/-- the two operands, then the rule -/
theorem bin_read' {f : Op} {r : R2} (to : ∀ (I : Addr → Prop) (H : Hp) (P : Val → Prop) (Q : VK) (d1 d2 : D) (v1 v2 : V), opP f [d1, d2] P → Peek C.N I H d1 v1 → Peek C.N I H d2 v2 → Then C.N I H P Q → r v1 v2 H Q) {os : Os} {ta tb : TE} (hr : ∀ σ H K, tOs C os σ H K → tAllN (flags os) [ta, tb] σ H K) (hn : noN os = true) (ma : MonoE ta) (mb : MonoE tb) :
    ∀ σ H Q, tOpX C f os σ H Q → tOp r ta tb σ H Q := by
  intro σ H Q h
  have h1 := hr σ H (fun vs H2 => match vs with
    | [x, y] => r x y H2 Q
    | _ => True) (h _ fun I ds vs H2 P pk hop th => by
      split
      · obtain ⟨d1, d2, rfl⟩ := two_of (peek_len pk)
        obtain ⟨p1, p2⟩ := peek2 pk
        exact to I H2 P Q d1 d2 _ _ hop p1 p2 th
      · trivial)
  have h2 := tAllN_all hn σ H _ (by
    intro t ht
    rcases List.mem_cons.mp ht with e | ht
    · rw [e]; exact ma
    · rw [List.mem_singleton.mp ht]; exact mb) h1
  exact h2
theorem idx_sound (xc : XC cf C k X) (hn : noN os = true) (hs : notSlice b = true) (ma : PEM X a ta) (mb : PEM X b tb) (hr : ∀ σ H K, tOs C os σ H K → tAllN (flags os) [ta, tb] σ H K) : PE X (.Subscript a b pos) (tOpX C .idx os) := by
  refine PE.imp (pe_ix (ix_seq.or ix_kdict) ma.pe mb.pe ?_) (bin_read' (fun I H P Q d1 d2 v1 v2 h p1 p2 q => by rw [xc.K, xc.wK]; exact ok_idx h p1 p2 q) hr hn ma.mo mb.mo)
  intro o i
  cases b <;> first
    | rfl
    | cases hs
theorem sl_some {lo hi : Option Int} (xc : XC cf C k X) {I : Addr → Prop} {H : Hp} {P : Val → Prop} {Q : VK} {v : V} {d : D}
    (h : (∃ xs, d = .lst xs ∧ P (.own, .lst (cut xs lo hi))) ∨ (∃ xs, d = .frz xs ∧ P (.own, .lst (cut xs lo hi))) ∨ (∃ xs, d = .tup xs ∧ P (.imm, .tup (cut xs lo hi)))) (pk : Peek C.N I H d v) (th : Then C.N I H P Q) : rSlX X.K v lo hi H Q := by
  rw [xc.K]
  exact ok_slc h pk th
theorem slc_inv {lo hi : Bool} {ds : List D} {P : Val → Prop} (h : opP (.slc lo hi) ds P) : ∃ (d : D) (r : List D), ds = d :: r ∧ ((lo = true ∧ hi = true ∧ ∃ i j, r = [.int i, .int j] ∧ ((∃ xs, d = .lst xs ∧ P (.own, .lst (cut xs (some i) (some j)))) ∨ (∃ xs, d = .frz xs ∧ P (.own, .lst (cut xs (some i) (some j)))) ∨ (∃ xs, d = .tup xs ∧ P (.imm, .tup (cut xs (some i) (some j)))))) ∨
    (lo = true ∧ hi = false ∧ ∃ i, r = [.int i] ∧ ((∃ xs, d = .lst xs ∧ P (.own, .lst (cut xs (some i) none))) ∨ (∃ xs, d = .frz xs ∧ P (.own, .lst (cut xs (some i) none))) ∨ (∃ xs, d = .tup xs ∧ P (.imm, .tup (cut xs (some i) none))))) ∨
    (lo = false ∧ hi = true ∧ ∃ j, r = [.int j] ∧ ((∃ xs, d = .lst xs ∧ P (.own, .lst (cut xs none (some j)))) ∨ (∃ xs, d = .frz xs ∧ P (.own, .lst (cut xs none (some j)))) ∨ (∃ xs, d = .tup xs ∧ P (.imm, .tup (cut xs none (some j)))))) ∨
    (lo = false ∧ hi = false ∧ r = [] ∧ ((∃ xs, d = .lst xs ∧ P (.own, .lst (cut xs none none))) ∨ (∃ xs, d = .frz xs ∧ P (.own, .lst (cut xs none none))) ∨ (∃ xs, d = .tup xs ∧ P (.imm, .tup (cut xs none none)))))) := by
  cases lo <;> cases hi
  · match ds, h with
    | [.lst xs], h => exact ⟨_, _, rfl, .inr (.inr (.inr ⟨rfl, rfl, rfl, .inl ⟨_, rfl, h⟩⟩))⟩
    | [.frz xs], h => exact ⟨_, _, rfl, .inr (.inr (.inr ⟨rfl, rfl, rfl, .inr (.inl ⟨_, rfl, h⟩)⟩))⟩
    | [.tup xs], h => exact ⟨_, _, rfl, .inr (.inr (.inr ⟨rfl, rfl, rfl, .inr (.inr ⟨_, rfl, h⟩)⟩))⟩
  · match ds, h with
    | [.lst xs, .int j], h => exact ⟨_, _, rfl, .inr (.inr (.inl ⟨rfl, rfl, _, rfl, .inl ⟨_, rfl, h⟩⟩))⟩
    | [.frz xs, .int j], h => exact ⟨_, _, rfl, .inr (.inr (.inl ⟨rfl, rfl, _, rfl, .inr (.inl ⟨_, rfl, h⟩)⟩))⟩
    | [.tup xs, .int j], h => exact ⟨_, _, rfl, .inr (.inr (.inl ⟨rfl, rfl, _, rfl, .inr (.inr ⟨_, rfl, h⟩)⟩))⟩
  · match ds, h with
    | [.lst xs, .int j], h => exact ⟨_, _, rfl, .inr (.inl ⟨rfl, rfl, _, rfl, .inl ⟨_, rfl, h⟩⟩)⟩
    | [.frz xs, .int j], h => exact ⟨_, _, rfl, .inr (.inl ⟨rfl, rfl, _, rfl, .inr (.inl ⟨_, rfl, h⟩)⟩)⟩
    | [.tup xs, .int j], h => exact ⟨_, _, rfl, .inr (.inl ⟨rfl, rfl, _, rfl, .inr (.inr ⟨_, rfl, h⟩)⟩)⟩
  · match ds, h with
    | [.lst xs, .int i, .int j], h => exact ⟨_, _, rfl, .inl ⟨rfl, rfl, _, _, rfl, .inl ⟨_, rfl, h⟩⟩⟩
    | [.frz xs, .int i, .int j], h => exact ⟨_, _, rfl, .inl ⟨rfl, rfl, _, _, rfl, .inr (.inl ⟨_, rfl, h⟩)⟩⟩
    | [.tup xs, .int i, .int j], h => exact ⟨_, _, rfl, .inl ⟨rfl, rfl, _, _, rfl, .inr (.inr ⟨_, rfl, h⟩)⟩⟩
end
end Ev
set_option Elab.async false
set_option linter.all false
set_option autoImplicit false
set_option maxRecDepth 100000
set_option maxHeartbeats 1000000
namespace Ev
open PySem PySem.Spec PyProof.Rows L2
section
variable {cf : Cf} {C : Cn} {k : Nat} {X : Cx} {sc : Scope} {f : Op} {os : Os} {ts : List TE} {a b c e : Expr} {p p2 pos : Pos} {ta tb tc : TE}
/-! ### slices -/
theorem slc11 (xc : XC cf C k X) (hf : flags os = [false, true, true]) (ma : PEM X a ta) (mb : PEM X b tb) (mc : PEM X c tc) (hr : ∀ σ H K, tOs C os σ H K → tAllN (flags os) [ta, tb, tc] σ H K) : PE X (.Subscript a (.Slice (some b) (some c) none p2) pos) (tOpX C (.slc true true) os) := by
  refine PE.imp (pe_slice slr ma.pe (po_some mb.pe) (po_some mc.pe)) fun σ H Q h => ?_
  have h1 := hr σ H (fun vs H2 => match vs with
    | [x, .int i, .int j] => rSlX X.K x (some i) (some j) H2 Q
    | _ => True) (h _ fun I ds vs H2 P pk hop th => by
      split
      · rename_i x i j
        obtain ⟨d, r, rfl, z⟩ := slc_inv hop
        obtain ⟨v, r', e, p1, q⟩ := pk
        cases e
        rcases z with ⟨_, _, i', j', rfl, z⟩ | ⟨_, z, _⟩ | ⟨z, _⟩ | ⟨z, _⟩ <;> first | (cases z; done) | skip
        obtain ⟨v1, r1, e1, q1, v2, r2, e2, q2, _⟩ := q
        cases e1
        cases e2
        cases (show V.int i = .int i' from q1)
        cases (show V.int j = .int j' from q2)
        exact sl_some xc z p1 th
      · trivial)
  rw [hf] at h1
  refine ma.mo σ H _ _ (fun x H1 h => mb.mo σ H1 _ _ (fun y H2 ⟨i, ei, h⟩ => ⟨i, ei, mc.mo σ H2 _ _ (fun z H3 ⟨j, ej, h⟩ => ⟨j, ej, ?_⟩) h⟩) h) h1
  subst ei ej
  exact h
theorem slc10 (xc : XC cf C k X) (hf : flags os = [false, true]) (ma : PEM X a ta) (mb : PEM X b tb) (hr : ∀ σ H K, tOs C os σ H K → tAllN (flags os) [ta, tb] σ H K) : PE X (.Subscript a (.Slice (some b) none none p2) pos) (tOpX C (.slc true false) os) := by
  refine PE.imp (pe_slice slr ma.pe (po_some mb.pe) po_none) fun σ H Q h => ?_
  have h1 := hr σ H (fun vs H2 => match vs with
    | [x, .int i] => rSlX X.K x (some i) none H2 Q
    | _ => True) (h _ fun I ds vs H2 P pk hop th => by
      split
      · rename_i x i
        obtain ⟨d, r, rfl, z⟩ := slc_inv hop
        obtain ⟨v, r', e, p1, q⟩ := pk
        cases e
        rcases z with ⟨_, z, _⟩ | ⟨_, _, i', rfl, z⟩ | ⟨z, _⟩ | ⟨z, _⟩ <;> first | (cases z; done) | skip
        obtain ⟨v1, r1, e1, q1, _⟩ := q
        cases e1
        cases (show V.int i = .int i' from q1)
        exact sl_some xc z p1 th
      · trivial)
  rw [hf] at h1
  refine ma.mo σ H _ _ (fun x H1 h => mb.mo σ H1 _ _ (fun y H2 ⟨i, ei, h⟩ => ⟨i, ei, ?_⟩) h) h1
  subst ei
  exact h
theorem slc01 (xc : XC cf C k X) (hf : flags os = [false, true]) (ma : PEM X a ta) (mb : PEM X b tb) (hr : ∀ σ H K, tOs C os σ H K → tAllN (flags os) [ta, tb] σ H K) : PE X (.Subscript a (.Slice none (some b) none p2) pos) (tOpX C (.slc false true) os) := by
  refine PE.imp (pe_slice slr ma.pe po_none (po_some mb.pe)) fun σ H Q h => ?_
  have h1 := hr σ H (fun vs H2 => match vs with
    | [x, .int i] => rSlX X.K x none (some i) H2 Q
    | _ => True) (h _ fun I ds vs H2 P pk hop th => by
      split
      · rename_i x i
        obtain ⟨d, r, rfl, z⟩ := slc_inv hop
        obtain ⟨v, r', e, p1, q⟩ := pk
        cases e
        rcases z with ⟨z, _⟩ | ⟨z, _⟩ | ⟨_, _, i', rfl, z⟩ | ⟨_, z, _⟩ <;> first | (cases z; done) | skip
        obtain ⟨v1, r1, e1, q1, _⟩ := q
        cases e1
        cases (show V.int i = .int i' from q1)
        exact sl_some xc z p1 th
      · trivial)
  rw [hf] at h1
  refine ma.mo σ H _ _ (fun x H1 h => mb.mo σ H1 _ _ (fun y H2 ⟨i, ei, h⟩ => ⟨i, ei, ?_⟩) h) h1
  subst ei
  exact h
theorem slc00 (xc : XC cf C k X) (hf : flags os = [false]) (ma : PEM X a ta) (hr : ∀ σ H K, tOs C os σ H K → tAllN (flags os) [ta] σ H K) : PE X (.Subscript a (.Slice none none none p2) pos) (tOpX C (.slc false false) os) := by
  refine PE.imp (pe_slice slr ma.pe po_none po_none) fun σ H Q h => ?_
  have h1 := hr σ H (fun vs H2 => match vs with
    | [x] => rSlX X.K x none none H2 Q
    | _ => True) (h _ fun I ds vs H2 P pk hop th => by
      split
      · rename_i x
        obtain ⟨d, r, rfl, z⟩ := slc_inv hop
        obtain ⟨v, r', e, p1, q⟩ := pk
        cases e
        rcases z with ⟨z, _⟩ | ⟨z, _⟩ | ⟨_, z, _⟩ | ⟨_, _, rfl, z⟩ <;> first | (cases z; done) | skip
        exact sl_some xc z p1 th
      · trivial)
  rw [hf] at h1
  exact h1
/-! ### built-in functions -/
theorem blt_in (xc : XC cf C k X) {x : Str} (h : bltNames.contains x = true) : X.mg x = none := xc.blt x (by simpa using h)
theorem blt_sound (xc : XC cf C k X) (hs : X.env.scope = sc) {x : Str} {es : List Expr} (hf : bltB f x = true) (hg : glB sc x = true) (hn : noN os = true) (hst : ∀ y ∈ e :: es, notStar y = true)
    (hp : Paired (PEM X) (e :: es) ts) (hr : ∀ σ H K, tOs C os σ H K → tAllN (flags os) ts σ H K) : PE X (.Call (.Name x p) (e :: es) [] pos) (tOpX C f os) := by
  have gl := gl_of hs hg
  have pa := pa_all hst hp
  have he := star_cons (es := es) (env := X.env) (hst e (List.mem_cons_self ..))
  have hpl := plain_star (env := X.env) (pos := pos) (es := es) fun y hy => hst y (List.mem_cons_of_mem _ hy)
  have mo := paired_mo hp
  have K := xc.K
  unfold bltB at hf
  split at hf
  · have ex : x = ("len" : Str) := by simpa using hf
    subst ex
    refine PE.imp (pe_callB call_len gl (blt_in xc rfl) rfl pa (he := he) (hpl := hpl)) (call_read (fun I H P Q ds vs h pk th => ?_) hr hn mo)
    obtain ⟨d, rfl⟩ := ar1 (.inl rfl) h
    obtain ⟨v, rfl, pv⟩ := peek1 pk
    obtain ⟨n, e1, e2⟩ := ok_len h pv th
    exact ⟨v, n, rfl, by rw [K]; exact e1, e2⟩
  · have ex : x = ("abs" : Str) := by simpa using hf
    subst ex
    refine PE.imp (pe_callB call_abs gl (blt_in xc rfl) rfl pa (he := he) (hpl := hpl)) (call_read (fun I H P Q ds vs h pk th => ?_) hr hn mo)
    obtain ⟨d, rfl⟩ := ar1 (.inr (.inl rfl)) h
    obtain ⟨v, rfl, pv⟩ := peek1 pk
    exact ok_abs h pv th
  · have ex : x = ("int" : Str) := by simpa using hf
    subst ex
    refine PE.imp (pe_callTy call_int1 gl (blt_in xc rfl) rfl pa (he := he) (hpl := hpl)) (call_read (fun I H P Q ds vs h pk th => ?_) hr hn mo)
    obtain ⟨d, rfl⟩ := ar1 (.inr (.inr (.inl rfl))) h
    obtain ⟨v, rfl, pv⟩ := peek1 pk
    exact ok_toInt h pv th
  · have ex : x = ("int" : Str) := by simpa using hf
    subst ex
    refine PE.imp (pe_callTy call_int_str gl (blt_in xc rfl) rfl pa (he := he) (hpl := hpl)) (call_read (fun I H P Q ds vs h pk th => ?_) hr hn mo)
    obtain ⟨d, rfl⟩ := ar1 (.inr (.inr (.inr (.inr (.inr (.inr (.inr (.inr (.inl rfl))))))))) h
    obtain ⟨v, rfl, pv⟩ := peek1 pk
    exact ok_toIntS h pv th
  · have ex : x = ("str" : Str) := by simpa using hf
    subst ex
    refine PE.imp (pe_callTy call_str_int gl (blt_in xc rfl) rfl pa (he := he) (hpl := hpl)) (call_read (fun I H P Q ds vs h pk th => ?_) hr hn mo)
    obtain ⟨d, rfl⟩ := ar1 (.inr (.inr (.inr (.inr (.inr (.inr (.inr (.inr (.inr rfl))))))))) h
    obtain ⟨v, rfl, pv⟩ := peek1 pk
    exact ok_toStr h pv th
  · have ex : x = ("list" : Str) := by simpa using hf
    subst ex
    refine PE.imp (pe_callTy call_list_of gl (blt_in xc rfl) rfl pa (he := he) (hpl := hpl)) (call_read (fun I H P Q ds vs h pk th => ?_) hr hn mo)
    obtain ⟨d, rfl⟩ := ar1 (.inr (.inr (.inr (.inl rfl)))) h
    obtain ⟨v, rfl, pv⟩ := peek1 pk
    rw [K]
    exact ok_toList h pv th
  · have ex : x = ("tuple" : Str) := by simpa using hf
    subst ex
    refine PE.imp (pe_callTy call_tuple_of gl (blt_in xc rfl) rfl pa (he := he) (hpl := hpl)) (call_read (fun I H P Q ds vs h pk th => ?_) hr hn mo)
    obtain ⟨d, rfl⟩ := ar1 (.inr (.inr (.inr (.inr (.inl rfl))))) h
    obtain ⟨v, rfl, pv⟩ := peek1 pk
    rw [K]
    exact ok_toTuple h pv th
  · have ex : x = ("all" : Str) := by simpa using hf
    subst ex
    refine PE.imp (pe_callB (cr_all xc.calm) gl (blt_in xc rfl) rfl pa (he := he) (hpl := hpl)) (call_read (fun I H P Q ds vs h pk th => ?_) hr hn mo)
    obtain ⟨d, rfl⟩ := ar1 (.inr (.inr (.inr (.inr (.inr (.inl rfl)))))) h
    obtain ⟨v, rfl, pv⟩ := peek1 pk
    rw [K]
    exact ok_all h pv th
  · have ex : x = ("any" : Str) := by simpa using hf
    subst ex
    refine PE.imp (pe_callB (cr_any xc.calm) gl (blt_in xc rfl) rfl pa (he := he) (hpl := hpl)) (call_read (fun I H P Q ds vs h pk th => ?_) hr hn mo)
    obtain ⟨d, rfl⟩ := ar1 (.inr (.inr (.inr (.inr (.inr (.inr (.inl rfl))))))) h
    obtain ⟨v, rfl, pv⟩ := peek1 pk
    rw [K]
    exact ok_any h pv th
  · have ex : x = ("sum" : Str) := by simpa using hf
    subst ex
    refine PE.imp (pe_callB (cr_sum xc.calm) gl (blt_in xc rfl) rfl pa (he := he) (hpl := hpl)) (call_read (fun I H P Q ds vs h pk th => ?_) hr hn mo)
    obtain ⟨d, rfl⟩ := ar1 (.inr (.inr (.inr (.inr (.inr (.inr (.inr (.inl rfl)))))))) h
    obtain ⟨v, rfl, pv⟩ := peek1 pk
    rw [K]
    exact ok_sum h pv th
  · have ex : x = ("max" : Str) := by simpa using hf
    subst ex
    refine PE.imp (pe_callB (call_max2 xc.calm) gl (blt_in xc rfl) rfl pa (he := he) (hpl := hpl)) (call_read (fun I H P Q ds vs h pk th => ?_) hr hn mo)
    obtain ⟨d1, d2, rfl⟩ := ar2 (.inl rfl) h
    obtain ⟨v1, v2, rfl, pv1, pv2⟩ := peek2' pk
    exact ok_max2 h pv1 pv2 th
  · have ex : x = ("min" : Str) := by simpa using hf
    subst ex
    refine PE.imp (pe_callB (call_min2 xc.calm) gl (blt_in xc rfl) rfl pa (he := he) (hpl := hpl)) (call_read (fun I H P Q ds vs h pk th => ?_) hr hn mo)
    obtain ⟨d1, d2, rfl⟩ := ar2 (.inr (.inl rfl)) h
    obtain ⟨v1, v2, rfl, pv1, pv2⟩ := peek2' pk
    exact ok_min2 h pv1 pv2 th
  · cases hf
theorem gcd_sound (xc : XC cf C k X) (hs : X.env.scope = sc) {es : List Expr} (hc : cf.gcd = true) (hg : glB sc "gcd" = true) (hn : noN os = true) (hst : ∀ y ∈ e :: es, notStar y = true)
    (hp : Paired (PEM X) (e :: es) ts) (hr : ∀ σ H K, tOs C os σ H K → tAllN (flags os) ts σ H K) : PE X (.Call (.Name "gcd" p) (e :: es) [] pos) (tOpX C .gcd os) := by
  have gl := gl_of hs hg
  have pa := pa_all hst hp
  have he := star_cons (es := es) (env := X.env) (hst e (List.mem_cons_self ..))
  have hpl := plain_star (env := X.env) (pos := pos) (es := es) fun y hy => hst y (List.mem_cons_of_mem _ hy)
  refine PE.imp (pe_callBfun cr_gcd gl (xc.gcd hc) pa (he := he) (hpl := hpl)) (call_read (fun I H P Q ds vs h pk th => ?_) hr hn (paired_mo hp))
  obtain ⟨d1, d2, rfl⟩ := ar2 (.inr (.inr rfl)) h
  obtain ⟨v1, v2, rfl, pv1, pv2⟩ := peek2' pk
  exact ok_gcd h pv1 pv2 th
/-! ### slices of texts -/
theorem slcS_inv {lo hi : Bool} {ds : List D} {P : Val → Prop} (h : opP (.slcS lo hi) ds P) : ∃ (z : Str) (r : List D), ds = .str z :: r ∧ z.length ≤ line ∧ ((lo = true ∧ hi = true ∧ ∃ i j, r = [.int i, .int j] ∧ P (.imm, .str (cutT z (some i) (some j)))) ∨
    (lo = true ∧ hi = false ∧ ∃ i, r = [.int i] ∧ P (.imm, .str (cutT z (some i) none))) ∨ (lo = false ∧ hi = true ∧ ∃ j, r = [.int j] ∧ P (.imm, .str (cutT z none (some j))))) := by
  cases lo <;> cases hi
  · exact h.elim
  · match ds, h with
    | [.str z, .int j], h => exact ⟨z, _, rfl, h.1, .inr (.inr ⟨rfl, rfl, j, rfl, h.2⟩)⟩
  · match ds, h with
    | [.str z, .int j], h => exact ⟨z, _, rfl, h.1, .inr (.inl ⟨rfl, rfl, j, rfl, h.2⟩)⟩
  · match ds, h with
    | [.str z, .int i, .int j], h => exact ⟨z, _, rfl, h.1, .inl ⟨rfl, rfl, i, j, rfl, h.2⟩⟩
theorem sls_to {I : Addr → Prop} {H : Hp} {P : Val → Prop} {Q : VK} {z : Str} {lo hi : Option Int} {v : V} (hz : z.length ≤ line) (pk : Peek C.N I H (.str z) v) (h : P (.imm, .str (cutT z lo hi))) (th : Then C.N I H P Q) : rSlS v lo hi H Q :=
  ⟨z, pk, by have := sizeLine_eq; simp only [line] at hz; omega, by rw [← cutT_eq]; exact th.str h⟩
theorem slcS11 (hf : flags os = [false, true, true]) (ma : PEM X a ta) (mb : PEM X b tb) (mc : PEM X c tc) (hr : ∀ σ H K, tOs C os σ H K → tAllN (flags os) [ta, tb, tc] σ H K) : PE X (.Subscript a (.Slice (some b) (some c) none p2) pos) (tOpX C (.slcS true true) os) := by
  refine PE.imp (pe_slice sl_str ma.pe (po_some mb.pe) (po_some mc.pe)) fun σ H Q h => ?_
  have h1 := hr σ H (fun vs H2 => match vs with
    | [x, .int i, .int j] => rSlS x (some i) (some j) H2 Q
    | _ => True) (h _ fun I ds vs H2 P pk hop th => by
      split
      · rename_i x i j
        obtain ⟨z, r, rfl, hz, w⟩ := slcS_inv hop
        obtain ⟨v, r', e, p1, q⟩ := pk
        cases e
        rcases w with ⟨_, _, i', j', rfl, w⟩ | ⟨_, w, _⟩ | ⟨w, _⟩ <;> first | (cases w; done) | skip
        obtain ⟨v1, r1, e1, q1, v2, r2, e2, q2, _⟩ := q
        cases e1
        cases e2
        cases (show V.int i = .int i' from q1)
        cases (show V.int j = .int j' from q2)
        exact sls_to hz p1 w th
      · trivial)
  rw [hf] at h1
  refine ma.mo σ H _ _ (fun x H1 h => mb.mo σ H1 _ _ (fun y H2 ⟨i, ei, h⟩ => ⟨i, ei, mc.mo σ H2 _ _ (fun z H3 ⟨j, ej, h⟩ => ⟨j, ej, ?_⟩) h⟩) h) h1
  subst ei ej
  exact h
theorem slcS10 (hf : flags os = [false, true]) (ma : PEM X a ta) (mb : PEM X b tb) (hr : ∀ σ H K, tOs C os σ H K → tAllN (flags os) [ta, tb] σ H K) : PE X (.Subscript a (.Slice (some b) none none p2) pos) (tOpX C (.slcS true false) os) := by
  refine PE.imp (pe_slice sl_str ma.pe (po_some mb.pe) po_none) fun σ H Q h => ?_
  have h1 := hr σ H (fun vs H2 => match vs with
    | [x, .int i] => rSlS x (some i) none H2 Q
    | _ => True) (h _ fun I ds vs H2 P pk hop th => by
      split
      · rename_i x i
        obtain ⟨z, r, rfl, hz, w⟩ := slcS_inv hop
        obtain ⟨v, r', e, p1, q⟩ := pk
        cases e
        rcases w with ⟨_, w, _⟩ | ⟨_, _, i', rfl, w⟩ | ⟨w, _⟩ <;> first | (cases w; done) | skip
        obtain ⟨v1, r1, e1, q1, _⟩ := q
        cases e1
        cases (show V.int i = .int i' from q1)
        exact sls_to hz p1 w th
      · trivial)
  rw [hf] at h1
  refine ma.mo σ H _ _ (fun x H1 h => mb.mo σ H1 _ _ (fun y H2 ⟨i, ei, h⟩ => ⟨i, ei, ?_⟩) h) h1
  subst ei
  exact h
theorem slcS01 (hf : flags os = [false, true]) (ma : PEM X a ta) (mb : PEM X b tb) (hr : ∀ σ H K, tOs C os σ H K → tAllN (flags os) [ta, tb] σ H K) : PE X (.Subscript a (.Slice none (some b) none p2) pos) (tOpX C (.slcS false true) os) := by
  refine PE.imp (pe_slice sl_str ma.pe po_none (po_some mb.pe)) fun σ H Q h => ?_
  have h1 := hr σ H (fun vs H2 => match vs with
    | [x, .int i] => rSlS x none (some i) H2 Q
    | _ => True) (h _ fun I ds vs H2 P pk hop th => by
      split
      · rename_i x i
        obtain ⟨z, r, rfl, hz, w⟩ := slcS_inv hop
        obtain ⟨v, r', e, p1, q⟩ := pk
        cases e
        rcases w with ⟨w, _⟩ | ⟨w, _⟩ | ⟨_, _, i', rfl, w⟩ <;> first | (cases w; done) | skip
        obtain ⟨v1, r1, e1, q1, _⟩ := q
        cases e1
        cases (show V.int i = .int i' from q1)
        exact sls_to hz p1 w th
      · trivial)
  rw [hf] at h1
  refine ma.mo σ H _ _ (fun x H1 h => mb.mo σ H1 _ _ (fun y H2 ⟨i, ei, h⟩ => ⟨i, ei, ?_⟩) h) h1
  subst ei
  exact h
end
end Ev
set_option Elab.async false
set_option linter.all false
set_option autoImplicit false
set_option maxRecDepth 100000
set_option maxHeartbeats 1000000
namespace Ev
open PySem PySem.Spec PyProof.Rows L2
theorem peek_mono {N : Nm} {I : Addr → Prop} {H H' : Hp} {d : D} {v : V} (h : Peek N I H d v) (up : ∀ q o, H q = some o → H' q = some o) : Peek N I H' d v := by
  have k : ∀ p o, I p → H p = some o → H' p = some o := fun p o _ z => up p o z
  cases d with
  | lst ds => obtain ⟨p, vs, e, a, r⟩ := h; exact ⟨p, vs, e, up _ _ a, RepL.mono (fun _ z => z) k _ _ r⟩
  | dic kvs =>
    obtain ⟨p, e, ⟨hs, a, r⟩ | ⟨hs, a, r⟩⟩ := h
    · exact ⟨p, e, .inl ⟨hs, up _ _ a, RepKV.mono (fun _ z => z) k _ _ r⟩⟩
    · exact ⟨p, e, .inr ⟨hs, up _ _ a, RepTV.mono (fun _ z => z) k _ _ r⟩⟩
  | obj c fs => obtain ⟨o, p, dx, hs, e, a, r⟩ := h; exact ⟨o, p, dx, hs, e, up _ _ a, RepF.mono (fun _ z => z) k _ _ r⟩
  | exc c an fs => exact Rep.mono (N := N) (H := H) (fun _ z => z) k (.exc c an fs) v h
  | non => exact Rep.mono (N := N) (H := H) (fun _ z => z) k .non v h
  | bl b => exact Rep.mono (N := N) (H := H) (fun _ z => z) k (.bl b) v h
  | int b => exact Rep.mono (N := N) (H := H) (fun _ z => z) k (.int b) v h
  | str b => exact Rep.mono (N := N) (H := H) (fun _ z => z) k (.str b) v h
  | tup b => exact Rep.mono (N := N) (H := H) (fun _ z => z) k (.tup b) v h
  | frz b => exact Rep.mono (N := N) (H := H) (fun _ z => z) k (.frz b) v h
  | dicw b => exact h
/-! ### isinstance -/
def tyTag : D → String
  | .non => "NoneType"
  | .bl _ => "bool"
  | .int _ => "int"
  | .str _ => "str"
  | .tup _ => "tuple"
  | .lst _ => "list"
  | .frz _ => "list"
  | .dic _ => "dict"
  | .dicw _ => "dict"
  | .obj _ _ => ""
  | .exc _ _ _ => ""
section
variable {cf : Cf} {C : Cn} {k : Nat} {X : Cx} {sc : Scope} {os : Os} {a e : Expr} {p p2 pos : Pos} {ta : TE}
def tyVal (N : Nm) : D → Value
  | .obj c _ => .ref (N.cls c)
  | .exc c _ _ => .ref (N.cls c)
  | d => .type (tyTag d)
/-- a value's type, or an error at hand -/
def TyY (K : PySem.W.Frag) (H : Hp) (x : V) (t : Value) : Prop := TyX K H x t ∨ ∃ (p dx Ca : Addr) (hs : List (Str × V)) (an : List Nat), x = .ref p ∧ H p = some (exo p Ca (some dx)) ∧ H dx = some (exd dx hs) ∧ t = .ref Ca ∧ KitE K Ca an
theorem kit_of' {pins : List (Addr × Obj)} {σ : L2.St} {H : Hp} {s : Shared} {x : V} {u t : Value} (I : Inv X pins σ H s) (rx : RelV x u) (ty : TyY X.K H x t) : ∃ P : Heap → Prop, PySem.W.KitX X.K u t P ∧ P s.heap ∧ u ≠ .builtin "__main__.__loader__#opaque" := by
  rcases ty with ty | ⟨p, dx, Ca, hs, an, rfl, e1, e2, rfl, kt⟩
  · exact kit_of I rx ty
  · cases (show u = Value.ref p from rx)
    obtain ⟨t1, ho⟩ := exo_at I.hok e1
    obtain ⟨mA, hns, _⟩ := exd_at I.hok e2
    obtain ⟨oD, esD, epD, hoD, hdD⟩ := hns
    obtain ⟨gt, hgt⟩ := kt.gt
    exact ⟨_, PySem.W.kitx_exc (od := some oD) kt.cl kt.ga hgt kt.sub kt.ha kt.hn kt.htk kt.hm, ⟨ho, rfl, rfl, hoD⟩, fun z => nomatch z⟩
def rIsi' (K : PySem.W.Frag) : List V → Hp → VK → Prop := fun xs H Q => ∃ (x c : V) (t u : Value) (b : Bool), xs = [x, c] ∧ ClsV c u ∧ TyY K H x t ∧ PySem.W.kitOne K t u = some b ∧ Q (.bl b) H
def rIsiT' (K : PySem.W.Frag) : List V → Hp → VK → Prop := fun xs H Q => ∃ (x : V) (tp : Addr) (cs : List V) (t : Value) (us : List Value) (b : Bool), xs = [x, .ref tp] ∧ H tp = some (.tup cs) ∧ Paired ClsV cs us ∧ TyY K H x t ∧ PySem.W.kitAny K t us = some b ∧ Q (.bl b) H
theorem call_isi' : CallR X (.builtin "isinstance") (rIsi' X.K) := by
  intro pins s σ H xs us Q I r h
  obtain ⟨x, c, t, u, b, rfl, k, ty, e, q⟩ := h
  obtain ⟨u1, u2, rfl, r1, r2⟩ := vals2 r
  have e2 := k.eq r2
  subst e2
  obtain ⟨P, Z, p, hx⟩ := kit_of' I r1 ty
  exact PySem.W.kia_one Z I.kIn p e hx fun tk => ⟨.bl b, H, I.tok tk, rfl, q⟩
theorem call_isiT' : CallR X (.builtin "isinstance") (rIsiT' X.K) := by
  intro pins s σ H xs us Q I r h
  obtain ⟨x, tp, cs, t, ws, b, rfl, hT, k, ty, e, q⟩ := h
  obtain ⟨u1, u2, rfl, r1, r2⟩ := vals2 r
  cases (show u2 = Value.ref tp from r2)
  obtain ⟨P, Z, p, hx⟩ := kit_of' I r1 ty
  obtain ⟨_, its, rv, o, h1, h2, n, h3⟩ := (show ObjOk X.prog X.w H s.heap tp (.tup cs) from I.hok tp _ hT)
  have e3 := ClsV.all k rv
  subst e3
  obtain ⟨oc, od, dt, sl⟩ := o
  simp only at h2 h3
  subst h2 h3
  exact PySem.W.kia_tup Z I.kIn p h1 e hx fun tk => ⟨.bl b, H, I.tok tk, rfl, q⟩
theorem peek_ty (xc : XC cf C k X) {I : Addr → Prop} {H : Hp} {d : D} {v : V} (h : Peek C.N I H d v) : TyY X.K H v (tyVal C.N d) := by
  cases d with
  | non => rw [show v = .non from h]; exact .inl <| .base .non
  | bl b => rw [show v = .bl b from h]; exact .inl <| .base (.bl b)
  | int b => rw [show v = .int b from h]; exact .inl <| .base (.int b)
  | str b => rw [show v = .str b from h]; exact .inl <| .base (.str b)
  | tup ds =>
    obtain ⟨q, vs, rfl, at_, r⟩ := h
    rcases at_ with ⟨_, at_ | ⟨o, at_⟩⟩ | ⟨o, its, n, e1, e2, _⟩
    · exact .inl <| .base (.tup at_)
    · exact .inl <| .fTuple at_
    · rw [← xc.K] at e1
      exact .inl <| .kTuple e1 e2
  | lst ds =>
    obtain ⟨q, vs, rfl, at_, r⟩ := h
    exact .inl <| .base (.lst at_)
  | frz ds =>
    obtain ⟨q, vs, rfl, at_, r⟩ := h
    rcases at_ with ⟨_, at_ | ⟨o, at_⟩⟩ | ⟨o, its, n, e1, e2, _⟩
    · exact .inl <| .base (.lst at_)
    · exact .inl <| .base (.frz at_)
    · rw [← xc.K] at e1
      exact .inl <| .kList e1 e2
  | dic kvs =>
    obtain ⟨q, rfl, ⟨hs, at_, _⟩ | ⟨hs, at_, _⟩⟩ := h
    · exact .inl <| .base (.dK at_)
    · exact .inl <| .base (.dT at_)
  | dicw kvs =>
    obtain ⟨q, rfl, ⟨o, h1, h2⟩, _⟩ := h
    rw [← xc.K] at h1
    exact .inl <| .kDict h1 h2
  | obj c fs =>
    obtain ⟨⟨o, _⟩, q, dx, hs, rfl, at_, r⟩ := h
    have kc := xc.kitc c o
    exact .inl <| .base (.ins at_ kc.cl kc.ha kc.hn kc.htk kc.hm)
  | exc c an fs =>
    obtain ⟨o, q, dx, hs, rfl, _, _, at_, at2, r⟩ := h
    exact .inr ⟨q, dx, _, hs, an, rfl, at_, at2, rfl, xc.kite c an o⟩
theorem exc_ok {N : Nm} {I : Addr → Prop} {H : Hp} {c : Nat} {an : List Nat} {fs : List (Nat × D)} {v : V} (h : Peek N I H (.exc c an fs) v) : N.xok c an := h.1
theorem obj_ok {N : Nm} {I : Addr → Prop} {H : Hp} {c : Nat} {fs : List (Nat × D)} {v : V} (h : Peek N I H (.obj c fs) v) : N.ok c := h.1.1
def isO : D → Bool
  | .obj _ _ => true
  | .exc _ _ _ => true
  | _ => false
/-- what a name of a type stands for -/
structure TyE (X : Cx) (N : Nm) (t : Ty) (e : Expr) (c : V) (u : Value) : Prop where
  pe : PE X e (tC c)
  cl : ClsV c u
  ans : ∀ (I : Addr → Prop) (H : Hp) (d : D) (v : V), Peek N I H d v → PySem.W.kitOne X.K (tyVal N d) u = some (hasTy t d)
theorem kit_bb (K : PySem.W.Frag) (n : String) (hn : n ∈ ["NoneType", "int", "bool", "str", "list", "tuple", "dict"]) : PySem.W.kitOne K (.type n) (.type "int") = some (n == "int" || n == "bool") ∧ PySem.W.kitOne K (.type n) (.type "bool") = some (n == "bool") ∧ PySem.W.kitOne K (.type n) (.type "str") = some (n == "str") ∧
    PySem.W.kitOne K (.type n) (.type "list") = some (n == "list") ∧ PySem.W.kitOne K (.type n) (.type "tuple") = some (n == "tuple") ∧ PySem.W.kitOne K (.type n) (.type "dict") = some (n == "dict") := by
  simp only [List.mem_cons, List.not_mem_nil, or_false] at hn
  rcases hn with rfl | rfl | rfl | rfl | rfl | rfl | rfl <;> exact ⟨kit_ty rfl, kit_ty rfl, kit_ty rfl, kit_ty rfl, kit_ty rfl, kit_ty rfl⟩
theorem tyE_of (xc : XC cf C k X) (hs : X.env.scope = sc) {t : Ty} {e : Expr} (h : tyB cf sc t e = true) : ∃ c u, TyE X C.N t e c u := by
  have fin : ∀ (n : String) (x : Str) (q : Pos), n ∈ ["int", "bool", "str", "list", "tuple", "dict"] → Gl X x → X.mg x = none → bootBuiltins x = some (.type n) → x ≠ "__name__" → (x == ("__debug__" : Str)) = false →
      (∀ d : D, isO d = false → PySem.W.kitOne X.K (.type (tyTag d)) (.type n) = some (hasTy t d)) → (∀ c fs, hasTy t (.obj c fs) = false) → (∀ c an fs, hasTy t (.exc c an fs) = false) → TyE X C.N t (.Name x q) (.ty n) (.type n) := fun n x q hn hg hm hb h1 h2 hd ho hx => by
    refine ⟨pe_bltn hg hm hb rfl h1 h2, .ty n, fun I H d v pk => ?_⟩
    cases d with
    | obj c fs =>
      rw [ho c fs]
      exact (xc.kitc c (obj_ok pk)).bo n (List.mem_append_left ["ValueError", "LookupError", "IndexError"] hn)
    | exc c an fs =>
      rw [hx c an fs]
      exact (xc.kite c an (exc_ok pk)).bo n hn
    | _ => exact hd _ rfl
  have tags : ∀ d : D, isO d = false → tyTag d ∈ ["NoneType", "int", "bool", "str", "list", "tuple", "dict"] := fun d hd => by
    cases d with
    | obj c fs => cases hd
    | exc c an fs => cases hd
    | _ => simp [tyTag]
  have bex : ∀ (i : Nat) (n : String), ["ValueError", "LookupError", "IndexError"][i]? = some n → Gl X (Str.ofString n) → X.mg (Str.ofString n) = none → bootBuiltins (Str.ofString n) = some (.type n) → (Str.ofString n) ≠ "__name__" → ((Str.ofString n) == ("__debug__" : Str)) = false →
      (∀ m ∈ ["NoneType", "int", "bool", "str", "list", "tuple", "dict"], PySem.W.kitOne X.K (.type m) (.type n) = some false) → ∀ q, TyE X C.N (.bex i) (.Name (Str.ofString n) q) (.ty n) (.type n) := fun i n hi hg hm hb h1 h2 hd q => by
    refine ⟨pe_bltn hg hm hb rfl h1 h2, .ty n, fun I H d v pk => ?_⟩
    cases d with
    | obj c fs =>
      have hn : n ∈ ["int", "bool", "str", "list", "tuple", "dict"] ++ ["ValueError", "LookupError", "IndexError"] := List.mem_append_right _ (List.mem_of_getElem? hi)
      exact (xc.kitc c (obj_ok pk)).bo n hn
    | exc c an fs => exact (xc.kite c an (exc_ok pk)).bx i n hi
    | _ => exact hd _ (by simp [tyTag])
  cases e with
  | Name x q =>
    cases t with
    | cls c =>
      have h : (decide (cf.cl c = some x) && (glB sc x && plainN x)) = true := h
      simp only [Bool.and_eq_true, decide_eq_true_eq] at h
      obtain ⟨h1, h2, h3⟩ := h
      obtain ⟨m, kt, kk, kx⟩ := xc.cls c x h1
      refine ⟨.ref (C.N.cls c), .ref (C.N.cls c), pe_glob (gl_of hs h2) m rfl (plain_of h3).1, .own _, fun I H d v pk => ?_⟩
      cases d with
      | obj c' fs =>
        have e := kk c' (obj_ok pk)
        show PySem.W.kitOne X.K (.ref (C.N.cls c')) _ = some (c == c')
        exact e
      | exc c' an fs => exact kx c' an (exc_ok pk)
      | _ => exact kt.bo _ (by simp [tyTag])
    | int =>
      have h : (decide (tyName .int = some x) && glB sc x) = true := h
      simp only [Bool.and_eq_true, decide_eq_true_eq] at h
      have ex : x = ("int" : Str) := (Option.some.inj h.1).symm
      subst ex
      exact ⟨_, _, fin "int" _ q (by simp) (gl_of hs h.2) (blt_in xc rfl) rfl (by decide) (by decide) (fun d hd => by rw [(kit_bb X.K _ (tags d hd)).1]; cases d <;> first | rfl | cases hd) (fun _ _ => rfl) fun _ _ _ => rfl⟩
    | bool =>
      have h : (decide (tyName .bool = some x) && glB sc x) = true := h
      simp only [Bool.and_eq_true, decide_eq_true_eq] at h
      have ex : x = ("bool" : Str) := (Option.some.inj h.1).symm
      subst ex
      exact ⟨_, _, fin "bool" _ q (by simp) (gl_of hs h.2) (blt_in xc rfl) rfl (by decide) (by decide) (fun d hd => by rw [(kit_bb X.K _ (tags d hd)).2.1]; cases d <;> first | rfl | cases hd) (fun _ _ => rfl) fun _ _ _ => rfl⟩
    | str =>
      have h : (decide (tyName .str = some x) && glB sc x) = true := h
      simp only [Bool.and_eq_true, decide_eq_true_eq] at h
      have ex : x = ("str" : Str) := (Option.some.inj h.1).symm
      subst ex
      exact ⟨_, _, fin "str" _ q (by simp) (gl_of hs h.2) (blt_in xc rfl) rfl (by decide) (by decide) (fun d hd => by rw [(kit_bb X.K _ (tags d hd)).2.2.1]; cases d <;> first | rfl | cases hd) (fun _ _ => rfl) fun _ _ _ => rfl⟩
    | list =>
      have h : (decide (tyName .list = some x) && glB sc x) = true := h
      simp only [Bool.and_eq_true, decide_eq_true_eq] at h
      have ex : x = ("list" : Str) := (Option.some.inj h.1).symm
      subst ex
      exact ⟨_, _, fin "list" _ q (by simp) (gl_of hs h.2) (blt_in xc rfl) rfl (by decide) (by decide) (fun d hd => by rw [(kit_bb X.K _ (tags d hd)).2.2.2.1]; cases d <;> first | rfl | cases hd) (fun _ _ => rfl) fun _ _ _ => rfl⟩
    | tuple =>
      have h : (decide (tyName .tuple = some x) && glB sc x) = true := h
      simp only [Bool.and_eq_true, decide_eq_true_eq] at h
      have ex : x = ("tuple" : Str) := (Option.some.inj h.1).symm
      subst ex
      exact ⟨_, _, fin "tuple" _ q (by simp) (gl_of hs h.2) (blt_in xc rfl) rfl (by decide) (by decide) (fun d hd => by rw [(kit_bb X.K _ (tags d hd)).2.2.2.2.1]; cases d <;> first | rfl | cases hd) (fun _ _ => rfl) fun _ _ _ => rfl⟩
    | dict =>
      have h : (decide (tyName .dict = some x) && glB sc x) = true := h
      simp only [Bool.and_eq_true, decide_eq_true_eq] at h
      have ex : x = ("dict" : Str) := (Option.some.inj h.1).symm
      subst ex
      exact ⟨_, _, fin "dict" _ q (by simp) (gl_of hs h.2) (blt_in xc rfl) rfl (by decide) (by decide) (fun d hd => by rw [(kit_bb X.K _ (tags d hd)).2.2.2.2.2]; cases d <;> first | rfl | cases hd) (fun _ _ => rfl) fun _ _ _ => rfl⟩
    | non =>
      have h : (decide (tyName .non = some x) && glB sc x) = true := h
      simp [tyName] at h
    | bex i =>
      have h : (decide (tyName (.bex i) = some x) && glB sc x) = true := h
      simp only [Bool.and_eq_true, decide_eq_true_eq] at h
      match i, h with
      | 0, h =>
        have ex : x = ("ValueError" : Str) := (Option.some.inj h.1).symm
        subst ex
        exact ⟨_, _, bex 0 "ValueError" rfl (gl_of hs h.2) (blt_in xc rfl) rfl (by decide) (by decide) (fun m hm => by simp only [List.mem_cons, List.not_mem_nil, or_false] at hm; rcases hm with rfl | rfl | rfl | rfl | rfl | rfl | rfl <;> exact kit_ty rfl) q⟩
      | 1, h =>
        have ex : x = ("LookupError" : Str) := (Option.some.inj h.1).symm
        subst ex
        exact ⟨_, _, bex 1 "LookupError" rfl (gl_of hs h.2) (blt_in xc rfl) rfl (by decide) (by decide) (fun m hm => by simp only [List.mem_cons, List.not_mem_nil, or_false] at hm; rcases hm with rfl | rfl | rfl | rfl | rfl | rfl | rfl <;> exact kit_ty rfl) q⟩
      | 2, h =>
        have ex : x = ("IndexError" : Str) := (Option.some.inj h.1).symm
        subst ex
        exact ⟨_, _, bex 2 "IndexError" rfl (gl_of hs h.2) (blt_in xc rfl) rfl (by decide) (by decide) (fun m hm => by simp only [List.mem_cons, List.not_mem_nil, or_false] at hm; rcases hm with rfl | rfl | rfl | rfl | rfl | rfl | rfl <;> exact kit_ty rfl) q⟩
      | i + 3, h => cases h.1
  | _ => cases t <;> cases h
theorem isi_inv {ts : List Ty} {ds : List D} {P : Val → Prop} (h : opP (.isi ts) ds P) : ∃ d, ds = [d] ∧ P (.imm, .bl (ts.any fun t => hasTy t d)) := by
  match ds, h with
  | [d], h => exact ⟨d, rfl, h⟩
  | [], h => exact h.elim
  | a :: b :: r, h => cases a <;> exact h.elim
theorem isi1_sound (xc : XC cf C k X) (hs : X.env.scope = sc) {t : Ty} {q : Pos} {x : Str} (hg : glB sc "isinstance" = true) (ht : tyB cf sc t (.Name x q) = true) (hst : notStar a = true) (hn : noN os = true) (ma : PEM X a ta) (hr : ∀ σ H K, tOs C os σ H K → tAllN (flags os) [ta] σ H K) :
    PE X (.Call (.Name "isinstance" p) [a, .Name x q] [] pos) (tOpX C (.isi [t]) os) := by
  obtain ⟨c, u, te⟩ := tyE_of xc hs ht
  have pa : PA X [a, .Name x q] (tCons ta (tCons (tC c) tNil)) := pa_cons ma.pe (pa_cons te.pe pa_nil rfl) (star_cons hst)
  refine PE.imp (pe_callB call_isi' (gl_of hs hg) (blt_in xc rfl) rfl pa (he := star_cons hst) (hpl := rfl)) ?_
  exact un_read (r := fun v H Q => rIsi' X.K [v, c] H Q) (fun I H P Q d v h pk th => by
    obtain ⟨d', e, hp⟩ := isi_inv h
    cases e
    refine ⟨v, c, _, u, _, rfl, te.cl, peek_ty xc pk, te.ans I H d v pk, th.bl ?_⟩
    simpa using hp) hr hn ma.mo
theorem tysE_of (xc : XC cf C k X) (hs : X.env.scope = sc) : ∀ {ts : List Ty} {es : List Expr}, tysB cf sc ts es = true → ∃ (cs : List V) (us : List Value), PA X es (fun σ H K => K cs H) ∧ Paired ClsV cs us ∧
    (∀ (I : Addr → Prop) (H : Hp) (d : D) (v : V), Peek C.N I H d v → PySem.W.kitAny X.K (tyVal C.N d) us = some (ts.any fun t => hasTy t d)) ∧ cs.length = es.length
  | [], [], _ => ⟨[], [], pa_nil, .nil, fun _ _ _ _ _ => rfl, rfl⟩
  | t :: ts, e :: es, h => by
    have h : (tyB cf sc t e && tysB cf sc ts es) = true := h
    rw [Bool.and_eq_true] at h
    obtain ⟨c, u, te⟩ := tyE_of xc hs h.1
    obtain ⟨cs, us, h1, h2, h3, h4⟩ := tysE_of xc hs h.2
    have st : notStar e = true := by
      cases e with
      | Starred _ _ => cases t <;> cases h.1
      | _ => rfl
    refine ⟨c :: cs, u :: us, pa_cons te.pe h1 (star_cons st), .cons te.cl h2, fun I H d v pk => ?_, by simp [h4]⟩
    show (match PySem.W.kitOne X.K (tyVal C.N d) u with | some true => some true | some false => PySem.W.kitAny X.K (tyVal C.N d) us | none => none) = _
    rw [te.ans I H d v pk]
    cases q : hasTy t d with
    | true => simp [q]
    | false => simp [q, h3 I H d v pk]
  | [], _ :: _, h => by cases h
  | _ :: _, [], h => by cases h
theorem isiT_sound (xc : XC cf C k X) (hs : X.env.scope = sc) {ts : List Ty} {cs : List Expr} {x1 : Nat} {q : Pos} (hg : glB sc "isinstance" = true) (ht : tysB cf sc ts cs = true) (hlen : cs.length ≤ 1000) (hst : notStar a = true) (hn : noN os = true) (ma : PEM X a ta) (hr : ∀ σ H K, tOs C os σ H K → tAllN (flags os) [ta] σ H K) :
    PE X (.Call (.Name "isinstance" p) [a, .Tuple cs x1 q] [] pos) (tOpX C (.isi ts) os) := by
  obtain ⟨vs, us, h1, h2, h3, h4⟩ := tysE_of xc hs ht
  have pa : PA X [a, .Tuple cs x1 q] (tCons ta (tCons (tTup fun σ H K => K vs H) tNil)) := pa_cons ma.pe (pa_cons (pe_tup h1) pa_nil rfl) (star_cons hst)
  refine PE.imp (pe_callB call_isiT' (gl_of hs hg) (blt_in xc rfl) rfl pa (he := star_cons hst) (hpl := rfl)) ?_
  have hz : vs.length ≤ sizeLine := by
    have := sizeLine_eq
    omega
  exact un_read (r := fun v H Q => vs.length ≤ sizeLine ∧ ∀ tp, H tp = none → rIsiT' X.K [v, .ref tp] (upd H tp (.tup vs)) Q) (fun I H P Q d v h pk th => by
    obtain ⟨d', e, hp⟩ := isi_inv h
    cases e
    refine ⟨hz, fun tp htp => ?_⟩
    have up := upd_keep (o := .tup vs) htp
    have pk' : Peek C.N I (upd H tp (.tup vs)) d v := peek_mono pk fun q o z => up q o z
    exact ⟨v, tp, vs, _, us, _, rfl, upd_same, h2, peek_ty xc pk', h3 I _ d v pk', th _ _ _ _ (.grow htp (.old (d := .bl _) rfl)) hp⟩) hr hn ma.mo
end
end Ev
set_option Elab.async false
set_option linter.all false
set_option autoImplicit false
set_option maxRecDepth 100000
set_option maxHeartbeats 1000000
namespace Ev
open PySem PySem.Spec PyProof.Rows L2
section
variable {cf : Cf} {C : Cn} {k : Nat} {X : Cx} {sc : Scope} {f : Op} {os : Os} {ts : List TE} {e : Expr} {es : List Expr}
theorem and_t {a b : Bool} (h : (a && b) = true) : a = true ∧ b = true := by simpa using h
/-- what is read of a test that is a comparison -/
def isCmpT : Expr → Bool
  | .Compare _ _ _ _ => true
  | _ => false
def isMethE : Expr → Bool
  | .Call (.Attribute _ _ _) _ _ _ => true
  | _ => false
theorem op_sound (xc : XC cf C k X) (hs : X.env.scope = sc) (hnm : isMethE e = false) (h : opArgs cf sc f os e = some es) (hst : ∀ y ∈ es, notStar y = true) (hp : Paired (PEM X) es ts) (hr : ∀ σ H K, tOs C os σ H K → tAllN (flags os) ts σ H K) :
    PE X e (tOpX C f os) ∧ (isCmpT e = true → PT X e (tTest (tOpX C f os))) := by
  unfold opArgs at h
  simp only [] at h
  split at h
  · cases hnm
  · split at h
    · rename_i q
      cases h
      obtain ⟨q1, q2⟩ := and_t q
      obtain ⟨ta, tb, rfl, ma, mb⟩ := p2 hp
      exact ⟨bin_sound xc q1 q2 ma mb hr, fun z => by cases z⟩
    · cases h
  · split at h
    · rename_i q
      cases h
      obtain ⟨q1, q2⟩ := and_t q
      obtain ⟨q2, q3⟩ := and_t q2
      obtain ⟨ta, rfl, ma⟩ := p1 hp
      cases f with
      | fld i => exact ⟨fld_sound xc (of_decide_eq_true q1) q2 q3 ma hr, fun z => by cases z⟩
      | _ => cases q1
    · cases h
  · split at h
    · split at h
      · rename_i q
        cases h
        obtain ⟨q1, q2⟩ := and_t q
        obtain ⟨ta, rfl, ma⟩ := p1 hp
        have e1 : f = .isN := by simpa using q1
        subst e1
        obtain ⟨a1, a2⟩ := isN_sound q2 ma hr
        exact ⟨a1, fun _ => a2⟩
      · cases h
    · split at h
      · rename_i q
        cases h
        obtain ⟨q1, q2⟩ := and_t q
        obtain ⟨ta, rfl, ma⟩ := p1 hp
        have e1 : f = .notN := by simpa using q1
        subst e1
        obtain ⟨a1, a2⟩ := notN_sound q2 ma hr
        exact ⟨a1, fun _ => a2⟩
      · cases h
    · split at h
      · rename_i q
        cases h
        obtain ⟨q1, q2⟩ := and_t q
        obtain ⟨q2, q3⟩ := and_t q2
        obtain ⟨ta, tb, rfl, ma, mb⟩ := p2 hp
        obtain ⟨a1, a2⟩ := cmp_sound xc q1 q2 (by simpa using q3) ma mb hr
        exact ⟨a1, fun _ => a2⟩
      · cases h
  · split at h
    · rename_i q
      cases h
      obtain ⟨q1, q2⟩ := and_t q
      obtain ⟨ta, rfl, ma⟩ := p1 hp
      have e1 : f = .neg := by simpa using q1
      subst e1
      exact ⟨neg_sound q2 ma hr, fun z => by cases z⟩
    · cases h
  · split at h
    · rename_i q
      cases h
      obtain ⟨q1, q2⟩ := and_t q
      obtain ⟨ta, tb, tc, rfl, ma, mb, mc⟩ := p3 hp
      have e1 : f = .slc true true ∨ f = .slcS true true := by simpa using q1
      rcases e1 with e1 | e1
      · subst e1
        exact ⟨slc11 xc (by simpa using q2) ma mb mc hr, fun z => by cases z⟩
      · subst e1
        exact ⟨slcS11 (by simpa using q2) ma mb mc hr, fun z => by cases z⟩
    · cases h
  · split at h
    · rename_i q
      cases h
      obtain ⟨q1, q2⟩ := and_t q
      obtain ⟨ta, tb, rfl, ma, mb⟩ := p2 hp
      have e1 : f = .slc true false ∨ f = .slcS true false := by simpa using q1
      rcases e1 with e1 | e1
      · subst e1
        exact ⟨slc10 xc (by simpa using q2) ma mb hr, fun z => by cases z⟩
      · subst e1
        exact ⟨slcS10 (by simpa using q2) ma mb hr, fun z => by cases z⟩
    · cases h
  · split at h
    · rename_i q
      cases h
      obtain ⟨q1, q2⟩ := and_t q
      obtain ⟨ta, tb, rfl, ma, mb⟩ := p2 hp
      have e1 : f = .slc false true ∨ f = .slcS false true := by simpa using q1
      rcases e1 with e1 | e1
      · subst e1
        exact ⟨slc01 xc (by simpa using q2) ma mb hr, fun z => by cases z⟩
      · subst e1
        exact ⟨slcS01 (by simpa using q2) ma mb hr, fun z => by cases z⟩
    · cases h
  · split at h
    · rename_i q
      cases h
      obtain ⟨q1, q2⟩ := and_t q
      obtain ⟨ta, rfl, ma⟩ := p1 hp
      have e1 : f = .slc false false := by simpa using q1
      subst e1
      exact ⟨slc00 xc (by simpa using q2) ma hr, fun z => by cases z⟩
    · cases h
  · split at h
    · rename_i q
      cases h
      obtain ⟨q1, q2⟩ := and_t q
      obtain ⟨q2, q3⟩ := and_t q2
      obtain ⟨ta, tb, rfl, ma, mb⟩ := p2 hp
      have e1 : f = .idx := by simpa using q1
      subst e1
      exact ⟨idx_sound xc q2 q3 ma mb hr, fun z => by cases z⟩
    · cases h
  · split at h
    · split at h
      · split at h
        · rename_i q
          cases h
          obtain ⟨q0, q⟩ := and_t q
          obtain ⟨q1, q⟩ := and_t q
          obtain ⟨q2, q⟩ := and_t q
          obtain ⟨q3, q4⟩ := and_t q
          obtain ⟨ta, rfl, ma⟩ := p1 hp
          have ex := eq_of_beq q0
          subst ex
          exact ⟨isi1_sound xc hs q1 q4 q3 q2 ma hr, fun z => by cases z⟩
        · cases h
      · split at h
        · rename_i q
          cases h
          obtain ⟨q0, q⟩ := and_t q
          obtain ⟨q1, q⟩ := and_t q
          obtain ⟨q2, q⟩ := and_t q
          obtain ⟨q3, q⟩ := and_t q
          obtain ⟨q5, q4⟩ := and_t q
          obtain ⟨ta, rfl, ma⟩ := p1 hp
          have ex := eq_of_beq q0
          subst ex
          exact ⟨isiT_sound xc hs q1 q4 (by simpa using q5) q3 q2 ma hr, fun z => by cases z⟩
        · cases h
      · cases h
    · split at h
      · split at h
        · rename_i q
          cases h
          obtain ⟨q1, q⟩ := and_t q
          obtain ⟨q2, q3⟩ := and_t q
          exact ⟨blt_sound xc hs q1 q2 q3 hst hp hr, fun z => by cases z⟩
        · split at h
          · rename_i q
            cases h
            obtain ⟨q1, q⟩ := and_t q
            obtain ⟨q2, q⟩ := and_t q
            obtain ⟨q3, q⟩ := and_t q
            obtain ⟨q4, q5⟩ := and_t q
            have e1 : f = .gcd := by simpa using q1
            subst e1
            have ex := eq_of_beq q3
            subst ex
            exact ⟨gcd_sound xc hs (by simpa using q2) q4 q5 hst hp hr, fun z => by cases z⟩
          · cases h
      · cases h
  · cases h
theorem kw_len : ∀ {kws : List Keyword} {ks : List Str}, kwNames kws = some ks → kws.length = ks.length
  | [], ks, h => by cases h; rfl
  | ⟨n, v, p⟩ :: r, ks, h => by
    cases n with
    | none => cases h
    | some n =>
      have h : (kwNames r).map (n :: ·) = some ks := h
      cases z : kwNames r with
      | none => rw [z] at h; cases h
      | some l => rw [z] at h; cases h; simp [kw_len z]
theorem ok_find {cf : Cf} {g : Nat} {kd : OpK} (h : decide ((cf.ok g).map (·.1) = some kd) = true) : ∃ cs, cf.ok g = some (kd, cs) := by
  have h : (cf.ok g).map (·.1) = some kd := of_decide_eq_true h
  cases q : cf.ok g with
  | none => rw [q] at h; cases h
  | some p =>
    rw [q] at h
    obtain ⟨a, b⟩ := p
    cases h
    exact ⟨b, rfl⟩
theorem call_sound (xc : XC cf C k X) (hs : X.env.scope = sc) {g : Nat} (h : callArgs cf sc g (flags os) e = some es) (hst : ∀ y ∈ es, notStar y = true) (hp : Paired (PEM X) es ts) (hr : ∀ σ H K, tOs C os σ H K → tAllN (flags os) ts σ H K) :
    PE X e (tE C (.call g os)) ∧ (isCmpT e = true → PT X e (tB C (.t (.call g os)))) := by
  unfold callArgs at h
  split at h
  · split at h
    · rename_i ks q0
      split at h
      · rename_i q
        cases h
        obtain ⟨q1, q⟩ := and_t q
        obtain ⟨q2, q⟩ := and_t q
        obtain ⟨q3, q4⟩ := and_t q
        obtain ⟨ts1, ts2, rfl, h1, h2⟩ := paired_split hp
        obtain ⟨a, m, kp, co⟩ := xc.fns _ _ _ _ (by simpa using q1)
        have l2 : ts2.length = ks.length := by
          rw [← Paired.length h2, List.length_map]
          exact kw_len q0
        have l1 := Paired.length h1
        refine ⟨PE.imp (pe_callX co xc.room (gl_of hs q2) m kp xc.tk h1 h2 (fun y hy => hst y (List.mem_append_left _ hy)) q0 (plain_of q3).1) ?_, fun z => by cases z⟩
        rw [← l2, l1]
        exact callx_read hr q4 (paired_mo h1) (paired_mo h2)
      · cases h
    · cases h
  · split at h
    · rename_i ks q0
      split at h
      · rename_i q
        cases h
        obtain ⟨q1, q⟩ := and_t q
        obtain ⟨q2, q⟩ := and_t q
        obtain ⟨q3, q⟩ := and_t q
        obtain ⟨q4, q⟩ := and_t q
        obtain ⟨q5, q6⟩ := and_t q
        obtain ⟨ts1, ts2, rfl, h1, h2⟩ := paired_split hp
        obtain ⟨cs, hok⟩ := ok_find q1
        obtain ⟨Ca, f, m, St, co⟩ := xc.ok _ _ _ hok
        have l2 : ts2.length = ks.length := by
          rw [← Paired.length h2, List.length_map]
          exact kw_len q0
        have l1 := Paired.length h1
        refine ⟨PE.imp (pe_statX (gl_of hs q2) m (plain_of q3).1 St co xc.room xc.tk h1 h2 (fun y hy => hst y (List.mem_append_left _ hy)) q0 (of_decide_eq_true q6) q5) ?_, fun z => by cases z⟩
        rw [← l2, l1]
        exact callx_read hr q4 (paired_mo h1) (paired_mo h2)
      · cases h
    · cases h
  · split at h
    · rename_i q
      cases h
      obtain ⟨q1, q2⟩ := and_t q
      obtain ⟨ta, tb, rfl, ma, mb⟩ := p2 hp
      obtain ⟨cs, hok⟩ := ok_find q1
      obtain ⟨hT, hC⟩ := xc.ok _ _ _ hok
      refine ⟨PE.imp (pe_binX (OkC := OkIn C.N cs) ma.pe mb.pe (fun Ca hc => ?_) xc.room xc.tk) (bin_read2 hT hr q2 ma.mo mb.mo), fun z => by cases z⟩
      obtain ⟨c, h1, h2, rfl⟩ := hc
      exact hC c h1 h2
    · cases h
  · split at h
    · rename_i q
      cases h
      obtain ⟨q1, q2⟩ := and_t q
      obtain ⟨ta, tb, rfl, ma, mb⟩ := p2 hp
      obtain ⟨cs, hok⟩ := ok_find q1
      obtain ⟨hT, hC⟩ := xc.ok _ _ _ hok
      have pc := pc_eqX (OkC := OkIn C.N cs) (sp := spOf C.N (C.G.fn g)) ma.pe mb.pe (fun Ca hc => by
        obtain ⟨c, h1, h2, rfl⟩ := hc
        exact hC c h1 h2) xc.room xc.tk
      exact ⟨PE.imp (pe_cmp pc) (bin_read2 (fun as Q X z => (hT as Q X z).1) hr q2 ma.mo mb.mo), fun _ => PT.imp (pt_cmp pc) (eq_read2 hT hr q2 ma.mo mb.mo)⟩
    · cases h
  · split at h
    · rename_i q
      cases h
      obtain ⟨q1, q2⟩ := and_t q
      obtain ⟨ta, rfl, ma⟩ := p1 hp
      obtain ⟨cs, hok⟩ := ok_find q1
      obtain ⟨hT, hC⟩ := xc.ok _ _ _ hok
      refine ⟨PE.imp (pe_negX (OkC := OkIn C.N cs) ma.pe (fun Ca hc => ?_) xc.room xc.tk) (one_read2 hT hr q2 ma.mo), fun z => by cases z⟩
      obtain ⟨c, h1, h2, rfl⟩ := hc
      exact hC c h1 h2
    · cases h
  · split at h
    · rename_i q
      cases h
      obtain ⟨q1, q⟩ := and_t q
      obtain ⟨q2, q3⟩ := and_t q
      obtain ⟨ta, rfl, ma⟩ := p1 hp
      obtain ⟨cs, hok⟩ := ok_find q1
      obtain ⟨hT, j, hj, hC⟩ := xc.ok _ _ _ hok
      refine ⟨PE.imp (pe_propX (OkC := OkIn C.N cs) (k := j) ma.pe (fun Ca hc => ?_) (xc.room.mono hj) (notSup_base q3)) (prop_read2 hT hr q2 ma.mo), fun z => by cases z⟩
      obtain ⟨c, h1, h2, rfl⟩ := hc
      exact hC c h1 h2
    · cases h
  · cases h
theorem methx_sound (xc : XC cf C k X) (hs : X.env.scope = sc) {g : Nat} {cs : List Nat} {t : T} {o : Expr} (h : methArgs cf g cs (flags os) e = some (o, es)) (ht : PE X o (tE C t)) (hst : ∀ y ∈ es, notStar y = true) (hp : Paired (PEM X) es ts) (hr : ∀ σ H K, tOs C os σ H K → tAllN (flags os) ts σ H K) :
    PE X e (tE C (.meth g cs t os)) ∧ isCmpT e = false := by
  unfold methArgs at h
  split at h
  · split at h
    · rename_i ks q0
      split at h
      · rename_i q
        cases h
        obtain ⟨q1, q⟩ := and_t q
        obtain ⟨q2, q⟩ := and_t q
        obtain ⟨q3, q⟩ := and_t q
        obtain ⟨q4, q5⟩ := and_t q
        obtain ⟨ts1, ts2, rfl, h1, h2⟩ := paired_split hp
        have hok := xc.ms _ _ _ _ _ (of_decide_eq_true q1)
        have l2 : ts2.length = ks.length := by
          rw [← Paired.length h2, List.length_map]
          exact kw_len q0
        have l1 := Paired.length h1
        rw [l1] at hok
        have hC : ∀ Ca, OkIn C.N cs Ca → Cls X.K Ca ∧ ∃ f, Meth X.K Ca _ f ∧ CallOk X.prog X.w X.K X.mg X.base k f (ts1.length + 1) ks (spOf C.N (C.G.fn g)) := fun Ca hc => by
          obtain ⟨c, h1, h2, rfl⟩ := hc
          exact (hok c h1 h2).2
        have pm := pe_methX (OkC := OkIn C.N cs) (sp := spOf C.N (C.G.fn g)) ht hC xc.room xc.tk h1 h2 (fun y hy => hst y (List.mem_append_left _ hy)) q0 (of_decide_eq_true q4) q3 (notSup_base q5)
        rw [← l2] at pm
        exact ⟨PE.imp pm (methx_read (fun c h1 h2 => (hok c h1 h2).1) hr q2 (paired_mo h1) (paired_mo h2)), rfl⟩
      · cases h
    · cases h
  · cases h
/-! ### methods of texts -/
/-- the argument, known before it is looked at -/
theorem meth_read {i : Nat} {arg : T} {r : V → List V → Hp → VK → Prop} (harg : (∃ d, arg = .cst d) ∨ ∃ g, arg = .glo g)
    (hr : ∀ (I : Addr → Prop) (H : Hp) (P : Val → Prop) (Q : VK) (d1 d2 : D) (v1 v2 : V), opP f [d1, d2] P → Peek C.N I H d1 v1 → Peek C.N I H d2 v2 → Then C.N I H P Q → r v1 [v2] H Q)
    (hs1 : ∀ (d1 d2 : D) (P : Val → Prop), opP f [d1, d2] P → ∃ z, d1 = .str z) : ∀ σ H Q, tE C (.op f (.v i (.e arg .nil))) σ H Q → tM1 r (tVar i) (tE C arg) σ H Q := by
  intro σ H Q ⟨Θ, I, τ, ρ, δ, P, Xx, s, w, kk, x⟩
  have w' : ∃ a, ρ.at i = some a ∧ ∃ d, (arg = .cst d ∨ ∃ g, arg = .glo g ∧ C.G.cst g = some d) ∧ opP f [a.2, d] fun r => P r ρ := by
    have w : (match ρ.at i with | none => False | some _ => wpE C.G arg ρ (fun a ρ1 => ∃ ds, resolve ρ1 [.v i, .x a] = some ds ∧ opP f ds fun r => P r ρ1) Xx) := w
    cases q : ρ.at i with
    | none => rw [q] at w; exact w.elim
    | some a =>
      rw [q] at w
      have rs : ∀ (d : D) (ds : List D), resolve ρ [.v i, .x (.imm, d)] = some ds → ds = [a.2, d] := fun d ds h => by
        have e1 : Opd.get ρ (.v i) = some a.2 := by
          show (ρ.at i).map (·.2) = _
          rw [q]
          rfl
        unfold resolve at h
        rw [e1] at h
        have h : some [a.2, d] = some ds := h
        cases h
        rfl
      rcases harg with ⟨d, rfl⟩ | ⟨g, rfl⟩
      · obtain ⟨ds, h1, h2⟩ := w
        rw [rs d ds h1] at h2
        exact ⟨a, rfl, d, .inl rfl, h2⟩
      · obtain ⟨d, hd, ds, h1, h2⟩ := w
        rw [rs d ds h1] at h2
        exact ⟨a, rfl, d, .inr ⟨g, rfl, hd⟩, h2⟩
  obtain ⟨a, ha, d, hd, hop⟩ := w'
  obtain ⟨v, hv, rv⟩ := s.slot ha
  obtain ⟨z, hz⟩ := hs1 _ _ _ hop
  have ev : v = .str z := by
    have pk := rv.peek
    rw [hz] at pk
    exact pk
  refine ⟨v, hv, ⟨z, ev⟩, Θ, I, τ, ρ, δ, fun b ρ' => b = (.imm, d) ∧ ρ' = ρ, Xx, s, ?_, fun b ρ' v2 H' I' ok s' ⟨e1, e2⟩ => ?_, x⟩
  · rcases hd with rfl | ⟨g, rfl, hg⟩
    · exact ⟨rfl, rfl⟩
    · exact ⟨d, hg, rfl, rfl⟩
  · subst e1 e2
    have s0 := s'.pop
    obtain ⟨u, hu, ru⟩ := s0.slot ha
    rw [hv] at hu
    cases hu
    refine hr I' H' _ Q a.2 d v v2 hop ru.peek s'.top.peek fun b w2 I2 H2 st p => ?_
    exact kk b _ w2 H2 I2 (step_ok st) (s0.step st) p
theorem meth_sound (xc : XC cf C k X) (hs : X.env.scope = sc) {m : Str} {o : Expr} {apos cpos : Pos} (hm : methN f = some m) (hl : (apos.endLine == cpos.line) = true) (hos : methOs os = true) (hn : isName o = true) (hst : notStar e = true)
    (hc : chkOs cf sc os [o, e] = true) :
    PE X (.Call (.Attribute o m apos) [e] [] cpos) (tE C (.op f os)) := by
  cases o with
  | Name x p =>
    have main : ∀ (i : Nat) (arg : T), os = .v i (.e arg .nil) → ((∃ d, arg = .cst d) ∨ ∃ g, arg = .glo g) → nameB cf sc i x = true → PE X e (tE C arg) → PE X (.Call (.Attribute (.Name x p) m apos) [e] [] cpos) (tE C (.op f os)) := by
      intro i arg eo harg h1 pe
      subst eo
      have s1' : starEach [e] X.env = [(false, eval e X.env)] := star_cons hst
      have po := pe_nm (p := p) xc hs h1
      cases f <;> first | (cases hm; done) | skip
      · cases hm
        refine PE.imp (pe_m1 F.slot_str_strip F.type_str_strip mt_stripChars po pe s1' rfl hl) (meth_read harg (fun I H P Q d1 d2 v1 v2 h p1 p2 q => ?_) fun d1 d2 P h => ?_)
        · cases d1 with
          | str z =>
            cases d2 with
            | str y => exact ⟨z, y, p1, by rw [show v2 = .str y from p2], by have := sizeLine_eq; have := h.1; simp only [line] at this; omega, q.str h.2⟩
            | _ => exact h.elim
          | _ => exact h.elim
        · cases d1 <;> cases d2 <;> first | exact h.elim | exact ⟨_, rfl⟩
      · cases hm
        refine PE.imp (pe_m1 F.slot_str_startswith F.type_str_startswith mt_startswith po pe s1' rfl hl) (meth_read harg (fun I H P Q d1 d2 v1 v2 h p1 p2 q => ?_) fun d1 d2 P h => ?_)
        · cases d1 with
          | str z =>
            cases d2 with
            | str y => exact ⟨z, y, p1, by rw [show v2 = .str y from p2], q.bl h⟩
            | _ => exact h.elim
          | _ => exact h.elim
        · cases d1 <;> cases d2 <;> first | exact h.elim | exact ⟨_, rfl⟩
      · cases hm
        refine PE.imp (pe_m1 F.slot_str_partition F.type_str_partition mt_partition po pe s1' rfl hl) (meth_read harg (fun I H P Q d1 d2 v1 v2 h p1 p2 q => ?_) fun d1 d2 P h => ?_)
        · cases d1 with
          | str z =>
            cases d2 with
            | str y =>
              obtain ⟨h1, h2, h3⟩ := h
              refine ⟨z, y, p1, by rw [show v2 = .str y from p2], by simpa using h1, by have := sizeLine_eq; simp only [line] at h2; omega, fun pp hp => ?_⟩
              exact q.tup hp (show RepL C.N I H [.str _, .str _, .str _] [.str _, .str _, .str _] from ⟨_, _, rfl, rfl, _, _, rfl, rfl, _, _, rfl, rfl, rfl⟩) h3
            | _ => exact h.elim
          | _ => exact h.elim
        · cases d1 <;> cases d2 <;> first | exact h.elim | exact ⟨_, rfl⟩
    cases os with
    | v i r =>
      cases r with
      | e arg r =>
        cases r with
        | nil =>
          obtain ⟨h1, h2⟩ := and_t (show (nameB cf sc i x && (notStar e && (chkE cf sc arg e && chkOs cf sc .nil []))) = true from hc)
          obtain ⟨_, h2⟩ := and_t h2
          obtain ⟨h2, _⟩ := and_t h2
          cases arg with
          | cst d =>
            cases e with
            | Constant c j q => exact main i _ rfl (.inl ⟨d, rfl⟩) h1 (pe_cst h2)
            | _ => cases h2
          | glo g =>
            cases e with
            | Name y q => exact main i _ rfl (.inr ⟨g, rfl⟩) h1 (pe_glo xc hs h2)
            | _ => cases h2
          | _ => cases hos
        | _ => cases arg <;> cases hos
      | _ => cases hos
    | _ => cases hos
  | _ => cases hn
end
end Ev
set_option Elab.async false
set_option linter.all false
set_option autoImplicit false
set_option maxRecDepth 100000
set_option maxHeartbeats 1000000
namespace Ev
open PySem PySem.Spec PyProof.Rows L2
section
variable {cf : Cf} {C : Cn} {k : Nat} {X : Cx} {sc : Scope} {a b : T} {c : B}
theorem and_read : ∀ σ H Q, tE C (.and_ a b) σ H Q → tAndV (tE C a) (tE C b) σ H Q := by
  intro σ H Q ⟨Θ, I, τ, ρ, δ, P, Xx, s, w, kk, x⟩
  refine ⟨Θ, I, τ, ρ, δ, _, Xx, s, w, fun a ρ' v H' I' ok s' ⟨k, e, z⟩ => ⟨k, s'.topBl e, ?_⟩, x⟩
  cases k with
  | true => exact ⟨Θ, I', τ, ρ', δ, P, Xx, s'.pop, z, kk, x⟩
  | false => exact kk (.imm, .bl false) ρ' (.bl false) H' I' (.inl rfl) (s'.pop.step (.old (d := .bl false) rfl)) z
theorem or_read : ∀ σ H Q, tE C (.or_ a b) σ H Q → tOrV (tE C a) (tE C b) σ H Q := by
  intro σ H Q ⟨Θ, I, τ, ρ, δ, P, Xx, s, w, kk, x⟩
  refine ⟨Θ, I, τ, ρ, δ, _, Xx, s, w, fun a ρ' v H' I' ok s' ⟨k, e, z⟩ => ⟨k, s'.topBl e, ?_⟩, x⟩
  cases k with
  | true => exact kk (.imm, .bl true) ρ' (.bl true) H' I' (.inl rfl) (s'.pop.step (.old (d := .bl true) rfl)) z
  | false => exact ⟨Θ, I', τ, ρ', δ, P, Xx, s'.pop, z, kk, x⟩
theorem not_read : ∀ σ H Q, tE C (.not_ a) σ H Q → tNotV (tE C a) σ H Q := by
  intro σ H Q ⟨Θ, I, τ, ρ, δ, P, Xx, s, w, kk, x⟩
  refine ⟨Θ, I, τ, ρ, δ, _, Xx, s, w, fun a ρ' v H' I' ok s' ⟨k, e, z⟩ => ⟨k, s'.topBl e, ?_⟩, x⟩
  exact kk (.imm, .bl !k) ρ' (.bl !k) H' I' (.inl rfl) (s'.pop.step (.old (d := .bl !k) rfl)) z
theorem ife_read : ∀ σ H Q, tE C (.ife c a b) σ H Q → tIf (tB C c) (tE C a) (tE C b) σ H Q := by
  intro σ H Q ⟨Θ, I, τ, ρ, δ, P, Xx, s, w, kk, x⟩
  refine ⟨Θ, I, τ, ρ, δ, _, Xx, s, w, fun k ρ' H' I' s' z => ?_, x⟩
  cases k with
  | true => exact ⟨Θ, I', τ, ρ', δ, P, Xx, s', z, kk, x⟩
  | false => exact ⟨Θ, I', τ, ρ', δ, P, Xx, s', z, kk, x⟩
/-! ### tests -/
theorem andB_read {a b : B} : ∀ σ H Q, tB C (.and_ a b) σ H Q → tAnd (tB C a) (tB C b) σ H Q := by
  intro σ H Q ⟨Θ, I, τ, ρ, δ, P, Xx, s, w, kk, x⟩
  refine ⟨Θ, I, τ, ρ, δ, _, Xx, s, w, fun k ρ' H' I' s' z => ?_, x⟩
  cases k with
  | true => exact ⟨Θ, I', τ, ρ', δ, P, Xx, s', z, kk, x⟩
  | false => exact kk false ρ' H' I' s' z
theorem orB_read {a b : B} : ∀ σ H Q, tB C (.or_ a b) σ H Q → tOr (tB C a) (tB C b) σ H Q := by
  intro σ H Q ⟨Θ, I, τ, ρ, δ, P, Xx, s, w, kk, x⟩
  refine ⟨Θ, I, τ, ρ, δ, _, Xx, s, w, fun k ρ' H' I' s' z => ?_, x⟩
  cases k with
  | true => exact kk true ρ' H' I' s' z
  | false => exact ⟨Θ, I', τ, ρ', δ, P, Xx, s', z, kk, x⟩
theorem notB_read {a : B} : ∀ σ H Q, tB C (.not_ a) σ H Q → tNot (tB C a) σ H Q := by
  intro σ H Q ⟨Θ, I, τ, ρ, δ, P, Xx, s, w, kk, x⟩
  exact ⟨Θ, I, τ, ρ, δ, _, Xx, s, w, fun k ρ' H' I' s' z => kk (!k) ρ' H' I' s' z, x⟩
theorem tru_of {N : Nm} {I : Addr → Prop} {H : Hp} {d : D} {v : V} {k : Bool} (h : truthD d = some k) (p : Peek N I H d v) : TruV N.K v H k := by
  cases d with
  | non => rw [show v = .non from p]; cases h; rfl
  | bl b => rw [show v = .bl b from p]; cases h; rfl
  | int b => rw [show v = .int b from p]; cases h; rfl
  | str z =>
    rw [show v = .str z from p]
    have h : (if z.length ≤ line then some (z.length != 0) else none) = some k := h
    by_cases hz : z.length ≤ line
    · rw [if_pos hz] at h
      cases h
      refine ⟨by have := sizeLine_eq; simp only [line] at hz; omega, ?_⟩
      by_cases e : z.length = 0
      · simp [e]
      · have e1 : ((z.length : Int) == 0) = false := by simp [e]
        have e2 : (z.length == 0) = false := by simp [e]
        simp [bne, e1, e2]
    · rw [if_neg hz] at h
      cases h
  | tup xs =>
    obtain ⟨q, vs, rfl, a, r⟩ := p
    cases h
    refine .inr (.inl ⟨vs, a.sq, ?_⟩)
    have := r.len
    cases xs <;> cases vs <;> first | rfl | simp at this
  | lst xs =>
    obtain ⟨q, vs, rfl, a, r⟩ := p
    cases h
    refine .inl ⟨vs, .inl (.inl a), ?_⟩
    have := r.len
    cases xs <;> cases vs <;> first | rfl | simp at this
  | _ => cases h
theorem plain_true {e : Expr} {env : Env} (h : plainT e = true) (whole : Sem Value) : isTrue e env whole = (do let v ← whole; standAt e.pos; holding [v] (truthy v)) := by
  cases e with
  | UnaryOp op _ _ => cases op <;> first | rfl | cases h
  | BoolOp _ _ _ => cases h
  | IfExp _ _ _ _ => cases h
  | Compare _ _ _ _ => cases h
  | _ => rfl
theorem t_read (hK : X.K = C.N.K) : ∀ σ H Q, tB C (.t a) σ H Q → tE C a σ H fun x H' => ∃ k, TruV X.K x H' k ∧ Q k H' := by
  intro σ H Q ⟨Θ, I, τ, ρ, δ, P, Xx, s, w, kk, x⟩
  refine ⟨Θ, I, τ, ρ, δ, _, Xx, s, w, fun a ρ' v H' I' ok s' ⟨k, e, z⟩ => ⟨k, by rw [hK]; exact tru_of e s'.top.peek, kk k ρ' H' I' s'.pop z⟩, x⟩
theorem look_read (hK : X.K = C.N.K) {i : Nat} : ∀ σ H Q, tB C (.look i) σ H Q → tVar i σ H fun x H' => ∃ k, TruV X.K x H' k ∧ Q k H' := by
  intro σ H Q ⟨Θ, I, τ, ρ, δ, P, Xx, s, ⟨a, k, ha, ht, hp⟩, kk, x⟩
  obtain ⟨v, hv, rv⟩ := s.slot ha
  exact ⟨v, hv, k, by rw [hK]; exact tru_of ht rv.peek, kk k ρ H I s hp⟩
/-! ### operands -/
theorem osV_read {i : Nat} {r : Os} {ts : List TE} (ih : ∀ σ H K, tOs C r σ H K → tAllN (flags r) ts σ H K) : ∀ σ H K, tOs C (.v i r) σ H K → tAllN (flags (.v i r)) (tVar i :: ts) σ H K := by
  intro σ H K ⟨Θ, I, τ, ρ, δ, P, Xx, s, w, kk, x⟩
  have w' : ∃ a, ρ.at i = some a ∧ wpOs C.G r ρ (fun l ρ' => P (.v i :: l) ρ') Xx := by
    have w : (match ρ.at i with | none => False | some _ => wpOs C.G r ρ (fun l ρ' => P (.v i :: l) ρ') Xx) := w
    cases q : ρ.at i with
    | none => rw [q] at w; exact w.elim
    | some a => rw [q] at w; exact ⟨a, rfl, w⟩
  obtain ⟨a, ha, w'⟩ := w'
  obtain ⟨v, hv, _⟩ := s.slot ha
  exact ⟨v, hv, ih σ H _ ⟨Θ, I, τ, ρ, δ, _, Xx, s, w', fun l ρ' τ' δ' vs H' I' s' ov p => kk (.v i :: l) ρ' τ' δ' (v :: vs) H' I' s' ⟨v, vs, rfl, hv, ov⟩ p, x⟩⟩
theorem os_next {Θ : Th} {I I' : Addr → Prop} {σ : L2.St} {τ : List V} {H H' : Hp} {ρ ρ' : Rho} {δ : List Val} {v : V} {a' : Val} {P : List Opd → Rho → Prop} {Xx : X1} {K : List V → Hp → Prop} {r : Os} (s : S0 C.N Θ I σ τ H ρ δ) (s' : S0 C.N Θ I' σ (τ ++ [v]) H' ρ' (δ ++ [a'])) (w : wpOs C.G r ρ' (fun l ρ' => P (.x a' :: l) ρ') Xx)
    (kk : ∀ l ρ' τ' δ' vs H' I', S0 C.N Θ I' σ (τ ++ τ') H' ρ' (δ ++ δ') → OpdsV σ (τ ++ τ') (δ ++ δ') τ.length l vs → P l ρ' → K vs H') (x : XOk C Θ σ τ δ Xx) : tOs C r σ H' fun vs H2 => K (v :: vs) H2 := by
  refine ⟨Θ, I', τ ++ [v], ρ', δ ++ [a'], _, Xx, s', w, fun l ρ2 τ' δ' vs H2 I2 s2 ov p => ?_, x.pop v a'⟩
  have e1 : τ ++ [v] ++ τ' = τ ++ (v :: τ') := by simp
  have e2 : δ ++ [a'] ++ δ' = δ ++ (a' :: δ') := by simp
  rw [e1, e2] at s2 ov
  refine kk (.x a' :: l) ρ2 (v :: τ') (a' :: δ') (v :: vs) H2 I2 s2 ⟨v, vs, τ.length, rfl, Nat.le_refl _, by simp, by rw [s.l2]; simp, ?_⟩ p
  simpa using ov
theorem osE_read {t : T} {r : Os} {ts : List TE} (ih : ∀ σ H K, tOs C r σ H K → tAllN (flags r) ts σ H K) : ∀ σ H K, tOs C (.e t r) σ H K → tAllN (flags (.e t r)) (tE C t :: ts) σ H K := by
  intro σ H K ⟨Θ, I, τ, ρ, δ, P, Xx, s, w, kk, x⟩
  refine ⟨Θ, I, τ, ρ, δ, _, Xx, s, w, fun a' ρ' v H' I' ok s' w' => ?_, x⟩
  exact ih σ H' _ (os_next s s' w' kk x)
theorem osN_read {t : T} {r : Os} {ts : List TE} (ih : ∀ σ H K, tOs C r σ H K → tAllN (flags r) ts σ H K) : ∀ σ H K, tOs C (.n t r) σ H K → tAllN (flags (.n t r)) (tE C t :: ts) σ H K := by
  intro σ H K ⟨Θ, I, τ, ρ, δ, P, Xx, s, w, kk, x⟩
  refine ⟨Θ, I, τ, ρ, δ, _, Xx, s, w, fun a' ρ' v H' I' ok s' w' => ?_, x⟩
  have w' : (match a'.2 with | .int _ => wpOs C.G r ρ' (fun l ρ' => P (.x a' :: l) ρ') Xx | _ => False) := w'
  cases q : a'.2 with
  | int i =>
    rw [q] at w'
    exact ⟨i, s'.topI q fun _ z => z, ih σ H' _ (os_next s s' w' kk x)⟩
  | _ => rw [q] at w'; exact w'.elim
theorem tsC_read {t : T} {r : Ts} : ∀ σ H K, tTs C (.cons t r) σ H K → tCons (tE C t) (tTs C r) σ H K := by
  intro σ H K ⟨Θ, I, τ, ρ, δ, P, Xx, s, w, kk, x⟩
  refine ⟨Θ, I, τ, ρ, δ, _, Xx, s, w, fun a' ρ' v H' I' ok s' w' => ?_, x⟩
  obtain ⟨I2, up, s2, rv⟩ := s'.leakT
  refine ⟨Θ, I2, τ ++ [v], ρ', δ ++ [(leakF a'.1, a'.2)], _, Xx, s2, w', fun ds ρ3 vs H3 I3 s3 rl hl p => ?_, x.pop v _⟩
  have r3 : Rep C.N I3 H3 a'.2 v := by
    have z := s3.top
    refine (repV_imm (a := (leakF a'.1, a'.2)) ?_).mp z
    show ownF (leakF a'.1) = false
    rcases ok with ok | ok <;> rw [ok] <;> rfl
  exact kk (a'.2 :: ds) ρ3 (v :: vs) H3 I3 s3.pop ⟨v, vs, rfl, r3, rl⟩ (by simp [lenT, hl]) p
theorem tup_read {ts : Ts} (hl : lenT ts ≤ 16777216) : ∀ σ H Q, tE C (.tup ts) σ H Q → tTup (tTs C ts) σ H Q := by
  intro σ H Q ⟨Θ, I, τ, ρ, δ, P, Xx, s, w, kk, x⟩
  refine ⟨Θ, I, τ, ρ, δ, _, Xx, s, w, fun ds ρ' vs H' I' s' rl hd p => ⟨by have := sizeLine_eq; have := rl.len; omega, fun q hq => ?_⟩, x⟩
  exact kk _ ρ' (.ref q) _ _ (.inl rfl) (s'.step (.tup hq rl)) p
theorem lst_read {ts : Ts} (hl : lenT ts ≤ 16777216) : ∀ σ H Q, tE C (.lst ts) σ H Q → tLst (tTs C ts) σ H Q := by
  intro σ H Q ⟨Θ, I, τ, ρ, δ, P, Xx, s, w, kk, x⟩
  refine ⟨Θ, I, τ, ρ, δ, _, Xx, s, w, fun ds ρ' vs H' I' s' rl hd p => ⟨by have := sizeLine_eq; have := rl.len; omega, fun q hq => ?_⟩, x⟩
  exact kk _ ρ' (.ref q) _ _ (.inr rfl) (s'.step (.own hq (d := .lst ds) ⟨vs, upd_same, RepL.mono (fun _ z => z) (fun b o _ z => upd_keep hq b o z) _ _ rl⟩)) p
/-! ### formatted texts -/
def tFs (C : Cn) (ts : Ts) (acc : Str) : L2.St → Hp → (Str → Hp → Prop) → Prop := fun σ H K => ∃ Θ I τ ρ δ P X, S0 C.N Θ I σ τ H ρ δ ∧ wpF C.G ts acc ρ P X ∧
  (∀ z ρ' H' I', S0 C.N Θ I' σ τ H' ρ' δ → P z ρ' → K z H') ∧ XOk C Θ σ τ δ X
theorem fmt_read {ts : Ts} : ∀ σ H Q, tE C (.fmt ts) σ H Q → tFs C ts Str.empty σ H fun z H' => Q (.str z) H' := by
  intro σ H Q ⟨Θ, I, τ, ρ, δ, P, Xx, s, w, kk, x⟩
  exact ⟨Θ, I, τ, ρ, δ, _, Xx, s, w, fun z ρ' H' I' s' p => kk _ ρ' (.str z) H' I' (.inl rfl) (s'.step (.old (d := .str z) rfl)) p, x⟩
theorem fmtC_read {t : T} {r : Ts} {us : List TE} (ih : ∀ acc σ H K, tFs C r acc σ H K → tJs us acc σ H K) : ∀ acc σ H K, tFs C (.cons t r) acc σ H K → tJs (tFmt (tE C t) :: us) acc σ H K := by
  intro acc σ H K ⟨Θ, I, τ, ρ, δ, P, Xx, s, w, kk, x⟩
  refine ⟨Θ, I, τ, ρ, δ, _, Xx, s, w, fun a ρ' v H' I' ok s' ⟨y, e, l, w'⟩ => ?_, x⟩
  have hz := sizeLine_eq
  have l' : (acc ++ y).length ≤ sizeLine := by simp only [line] at l; omega
  have nx : tJs us (acc ++ y) σ H' K := ih _ σ H' K ⟨Θ, I', τ, ρ', δ, P, Xx, s'.pop, w', kk, x⟩
  cases q : a.2 with
  | str z =>
    rw [q] at e
    have e : (if z.length ≤ line then some z else none) = some y := e
    by_cases c : z.length ≤ line
    · rw [if_pos c] at e
      cases e
      exact .inl ⟨y, s'.topI q fun _ z => z, by simp only [line] at c; omega, y, rfl, l', nx⟩
    · rw [if_neg c] at e
      cases e
  | int i =>
    rw [q] at e
    have e : (if i.natAbs.log2 < 1920 then some (textI i) else none) = some y := e
    by_cases c : i.natAbs.log2 < 1920
    · rw [if_pos c] at e
      cases e
      exact .inr ⟨i, s'.topI q fun _ z => z, c, _, rfl, l', nx⟩
    · rw [if_neg c] at e
      cases e
  | _ => rw [q] at e; cases e
theorem fmtS_read {z : Str} {r : Ts} {us : List TE} (ih : ∀ acc σ H K, tFs C r acc σ H K → tJs us acc σ H K) : ∀ acc σ H K, tFs C (.cons (.cst (.str z)) r) acc σ H K → tJs (tC (.str z) :: us) acc σ H K := by
  intro acc σ H K ⟨Θ, I, τ, ρ, δ, P, Xx, s, ⟨y, e, l, w⟩, kk, x⟩
  have e : (if z.length ≤ line then some z else none) = some y := e
  by_cases c : z.length ≤ line
  · rw [if_pos c] at e
    cases e
    exact ⟨z, rfl, by have := sizeLine_eq; simp only [line] at l; omega, ih _ σ H K ⟨Θ, I, τ, ρ, δ, P, Xx, s, w, kk, x⟩⟩
  · rw [if_neg c] at e
    cases e
end
end Ev
set_option Elab.async false
set_option linter.all false
set_option autoImplicit false
set_option maxRecDepth 100000
set_option maxHeartbeats 1000000
namespace Ev
open PySem PySem.Spec PyProof.Rows L2
section
variable {cf : Cf} {C : Cn} {k : Nat} {X : Cx} {sc : Scope} {a b e e2 tg : Expr} {p p2 pos : Pos} {t u : T} {os : Os}
theorem src1 {τ : List V} {δ : List Val} {v : V} {f : Fl} {d : D} (l2 : τ.length = δ.length) (hf : ownF f = false) : SrcAt (τ ++ [v]) (δ ++ [(f, d)]) [(d, v)] := fun q hq => by
  rw [List.mem_singleton.mp hq]
  exact ⟨τ.length, f, by simp, by rw [l2]; simp, hf⟩
theorem leak_not {f : Fl} (h : f = .imm ∨ f = .own) : ownF (leakF f) = false := by rcases h with h | h <;> rw [h] <;> rfl
theorem pi_seq' (xc : XC cf C k X) (h : PE X e (tE C t)) : PI X tg e (tI C (.seq t)) := by
  refine PI.imp (pi_seq h) fun σ H R ⟨Θ, I, τ, ρ, δ, P, Xx, s, w, kk, x⟩ => ?_
  refine ⟨Θ, I, τ, ρ, δ, _, Xx, s, w, fun a ρ' v H' I' ok s' ⟨ds, e, p⟩ => ?_, x⟩
  obtain ⟨I2, up, s2, rv⟩ := s'.leakT
  obtain ⟨p', vs, rfl, rl, hl, ht⟩ := sq_items e rv
  refine ⟨p', rfl, ?_⟩
  cases q : isTup a.2 with
  | false => exact .inl ⟨⟨vs, by rw [xc.K]; exact hl q⟩, kk ds ρ' [.ref p'] [(leakF a.1, a.2)] [(a.2, .ref p')] _ H' I2 s2 (src1 s.l2 (leak_not ok)) (itok_l xc.K e q) p⟩
  | true => exact .inr ⟨⟨vs, by rw [xc.K]; exact ht q⟩, kk ds ρ' [.ref p'] [(leakF a.1, a.2)] [(a.2, .ref p')] _ H' I2 s2 (src1 s.l2 (leak_not ok)) (itok_t xc.K e q) p⟩
theorem range_os {ts : List TE} {σ : L2.St} {H : Hp} {R : L2.It → Hp → Prop} (hr : ∀ σ H K, tOs C os σ H K → tAllN (flags os) ts σ H K) (hn : noN os = true) (mo : ∀ t ∈ ts, MonoE t) (h : tI C (.range os) σ H R) :
    tAll ts σ H fun vs H1 => (vs.length = 1 → ∃ j : Int, vs = [.int j] ∧ -(2 ^ 62) ≤ j ∧ j < 2 ^ 62 ∧ R (Itr 0 j.toNat) H1) ∧ (vs.length = 2 → ∃ i j : Int, vs = [.int i, .int j] ∧ (-(2 ^ 62) ≤ i ∧ i < 2 ^ 62 ∧ -(2 ^ 62) ≤ j ∧ j < 2 ^ 62) ∧ R (Itr i (j - i).toNat) H1) := by
  obtain ⟨Θ, I, τ, ρ, δ, P, Xx, s, w, kk, x⟩ := h
  refine tAllN_all hn σ H _ mo (hr σ H _ ⟨Θ, I, τ, ρ, δ, _, Xx, s, w, fun l ρ' τ' δ' vs H' I' s' ov ⟨ds, is, hr, hd, p⟩ => ?_, x⟩)
  have pk := opds_peek s' ov hr
  have pl := peek_len pk
  have src : SrcAt (τ ++ τ') (δ ++ δ') [] := fun q hq => by cases hq
  refine ⟨fun l1 => ?_, fun l1 => ?_⟩
  · obtain ⟨d, rfl⟩ := one_of (pl.trans l1)
    obtain ⟨v, rfl, pv⟩ := peek1 pk
    cases d with
    | int j =>
      have hd : (if -(2 ^ 62) ≤ j ∧ j < 2 ^ 62 then some (rangeI 0 j.toNat) else none) = some is := hd
      by_cases c : -(2 ^ 62) ≤ j ∧ j < 2 ^ 62
      · rw [if_pos c] at hd
        cases hd
        exact ⟨j, by rw [show v = .int j from pv], c.1, c.2, kk _ ρ' τ' δ' [] _ H' I' s' src itok_r p⟩
      · rw [if_neg c] at hd
        cases hd
    | _ => cases hd
  · obtain ⟨d1, d2, rfl⟩ := two_of (pl.trans l1)
    obtain ⟨v1, v2, rfl, pv1, pv2⟩ := peek2' pk
    cases d1 with
    | int i =>
      cases d2 with
      | int j =>
        have hd : (if -(2 ^ 62) ≤ i ∧ i < 2 ^ 62 ∧ -(2 ^ 62) ≤ j ∧ j < 2 ^ 62 then some (rangeI i (j - i).toNat) else none) = some is := hd
        by_cases c : -(2 ^ 62) ≤ i ∧ i < 2 ^ 62 ∧ -(2 ^ 62) ≤ j ∧ j < 2 ^ 62
        · rw [if_pos c] at hd
          cases hd
          exact ⟨i, j, by rw [show v1 = .int i from pv1, show v2 = .int j from pv2], c, kk _ ρ' τ' δ' [] _ H' I' s' src itok_r p⟩
        · rw [if_neg c] at hd
          cases hd
      | _ => cases hd
    | _ => cases hd
theorem pi_rng1 (xc : XC cf C k X) (hs : X.env.scope = sc) (hg : glB sc "range" = true) (hn : noN os = true) (hst : ∀ y ∈ [a], notStar y = true) {ts : List TE} (hp : Paired (PEM X) [a] ts) (hr : ∀ σ H K, tOs C os σ H K → tAllN (flags os) ts σ H K) :
    PI X tg (.Call (.Name "range" p) [a] [] pos) (tI C (.range os)) := by
  have pa := pa_all hst hp
  have mo := paired_mo hp
  have l := Paired.length hp
  refine PI.imp (pi_range1 (gl_of hs hg) (blt_in xc rfl) pa (hs := star_cons (hst a (List.mem_cons_self ..)))) fun σ H R h => ?_
  exact tAll_mono mo σ H _ _ (fun vs H' lv z => z.1 (lv.trans l.symm)) (range_os hr hn mo h)
theorem pi_rng2 (xc : XC cf C k X) (hs : X.env.scope = sc) (hg : glB sc "range" = true) (hn : noN os = true) (hst : ∀ y ∈ [a, b], notStar y = true) {ts : List TE} (hp : Paired (PEM X) [a, b] ts) (hr : ∀ σ H K, tOs C os σ H K → tAllN (flags os) ts σ H K) :
    PI X tg (.Call (.Name "range" p) [a, b] [] pos) (tI C (.range os)) := by
  have pa := pa_all hst hp
  have mo := paired_mo hp
  have l := Paired.length hp
  have s2 : starEach [b] X.env = [(false, eval b X.env)] := star_cons (hst b (List.mem_cons_of_mem _ (List.mem_cons_self ..)))
  refine PI.imp (pi_range2 (gl_of hs hg) (blt_in xc rfl) pa (hs := (star_cons (hst a (List.mem_cons_self ..))).trans (by rw [s2])) (hs2 := s2)) fun σ H R h => ?_
  exact tAll_mono mo σ H _ _ (fun vs H' lv z => z.2 (lv.trans l.symm)) (range_os hr hn mo h)
theorem pi_zip' (xc : XC cf C k X) (hs : X.env.scope = sc) (hg : glB sc "zip" = true) (ht : isTupE tg = true) (sa : notStar a = true) (sb : notStar b = true) (ha : PE X a (tE C t)) (hb : PE X b (tE C u)) :
    PI X tg (.Call (.Name "zip" p) [a, b] [] pos) (tI C (.zip t u)) := by
  cases tg with
  | Tuple elts kk0 tpos =>
    have s2 : starEach [b] X.env = [(false, eval b X.env)] := star_cons sb
    have pa : PA X [a, b] (tCons (tE C t) (tCons (tE C u) tNil)) := pa_cons ha (pa_cons hb pa_nil s2) (star_cons sa)
    refine PI.imp (RZ.pi_zipA (gl_of hs hg) (blt_in xc rfl) pa (hs := star_cons sa) (hpl := by rw [s2]; rfl)) fun σ H R ⟨Θ, I, τ, ρ, δ, P, Xx, s, w, kk, x⟩ => ?_
    refine ⟨Θ, I, τ, ρ, δ, _, Xx, s, w, fun a1 ρ1 v1 H1 I1 ok1 s1 w1 => ?_, x⟩
    obtain ⟨J1, up1, s1', rv1⟩ := s1.leakT
    refine ⟨Θ, J1, τ ++ [v1], ρ1, δ ++ [(leakF a1.1, a1.2)], _, Xx, s1', w1, fun a2 ρ2 v2 H2 I2 ok2 s2 ⟨ds, es, e1, e2, e3, pp⟩ => ?_, x.pop v1 _⟩
    obtain ⟨J2, up2, s2', rv2⟩ := s2.leakT
    have sr1 : SrcAt (τ ++ [v1] ++ [v2]) (δ ++ [(leakF a1.1, a1.2)] ++ [(leakF a2.1, a2.2)]) [(a1.2, v1), (a2.2, v2)] := fun q hq => by
      have l2 := s.l2
      rcases List.mem_cons.mp hq with e | hq
      · rw [e]
        refine ⟨τ.length, leakF a1.1, by simp, by rw [l2]; simp, leak_not ok1⟩
      · rw [List.mem_singleton.mp hq]
        refine ⟨τ.length + 1, leakF a2.1, by simp, by rw [l2]; simp, leak_not ok2⟩
    have reps := sr1.reps (τ' := []) (δ' := []) (by simpa using s2')
    obtain ⟨p1, vs1, ev1, rl1, hl1, ht1⟩ := sq_items e1 (reps (a1.2, v1) (by simp))
    obtain ⟨p2, vs2, ev2, rl2, hl2, ht2⟩ := sq_items e2 (reps (a2.2, v2) (by simp))
    have ev1 : v1 = .ref p1 := ev1
    have ev2 : v2 = .ref p2 := ev2
    subst ev1 ev2
    have s3 : S0 C.N Θ J2 σ (τ ++ [.ref p1, .ref p2]) H2 ρ2 (δ ++ [(leakF a1.1, a1.2), (leakF a2.1, a2.2)]) := by simpa using s2'
    have sr2 : SrcAt (τ ++ [.ref p1, .ref p2]) (δ ++ [(leakF a1.1, a1.2), (leakF a2.1, a2.2)]) [(a1.2, .ref p1), (a2.2, .ref p2)] := by simpa using sr1
    refine ⟨p1, p2, vs1, vs2, rfl, ?_⟩
    cases q : isTup a1.2 with
    | false =>
      have q2 : isTup a2.2 = false := e3.symm.trans q
      refine .inl ⟨by rw [xc.K]; exact hl1 q, by rw [xc.K]; exact hl2 q2, ?_⟩
      exact kk _ ρ2 [.ref p1, .ref p2] _ _ _ H2 J2 s3 sr2 (itok_zl xc.K e1 e2 q q2) pp
    | true =>
      have q2 : isTup a2.2 = true := e3.symm.trans q
      refine .inr ⟨by rw [xc.K]; exact ht1 q, by rw [xc.K]; exact ht2 q2, ?_⟩
      exact kk _ ρ2 [.ref p1, .ref p2] _ _ _ H2 J2 s3 sr2 (itok_zt xc.K e1 e2 q q2) pp
  | _ => cases ht
theorem pi_enum' (xc : XC cf C k X) (hs : X.env.scope = sc) (hg : glB sc "enumerate" = true) (ht : isTupE tg = true) (sa : notStar a = true) (ha : PE X a (tE C t)) :
    PI X tg (.Call (.Name "enumerate" p) [a] [] pos) (tI C (.enum t)) := by
  cases tg with
  | Tuple elts kk0 tpos =>
    have pa : PA X [a] (tCons (tE C t) tNil) := pa_cons ha pa_nil (star_cons sa)
    refine PI.imp (pi_enum (gl_of hs hg) (blt_in xc rfl) pa (hs := star_cons sa)) fun σ H R ⟨Θ, I, τ, ρ, δ, P, Xx, s, w, kk, x⟩ => ?_
    refine ⟨Θ, I, τ, ρ, δ, _, Xx, s, w, fun a ρ' v H' I' ok s' ⟨ds, e, q, p⟩ => ?_, x⟩
    obtain ⟨I2, up, s2, rv⟩ := s'.leakT
    obtain ⟨p', vs, rfl, rl, hl, _⟩ := sq_items e rv
    exact ⟨p', vs, rfl, by rw [xc.K]; exact hl q, kk _ ρ' [.ref p'] [(leakF a.1, a.2)] [(a.2, .ref p')] _ H' I2 s2 (src1 s.l2 (leak_not ok)) (itok_e xc.K e q) p⟩
  | _ => cases ht
theorem itok_c (z : Str) : ItOk C.N (Its z) [] (charsD z) := by
  intro I H _ i
  have hl : (charsD z).length = z.cps.size := by simp [charsD]
  refine ⟨fun d hd => ?_, fun l => by rw [hl] at l; exact l⟩
  unfold charsD at hd
  rw [List.getElem?_map] at hd
  cases q : z.cps.toList[i]? with
  | none => rw [q] at hd; cases hd
  | some c =>
    rw [q] at hd
    cases hd
    have li := (List.getElem?_eq_some_iff.mp q).1
    refine ⟨show i < z.cps.size by simpa using li, fun x H' ⟨e, c', hc, ex⟩ => ?_⟩
    subst e ex
    rw [← Array.getElem?_toList, q] at hc
    cases hc
    exact ⟨I, .old rfl⟩
theorem pi_chars (h : PE X e (tE C t)) : PI X tg e (tI C (.chars t)) := by
  refine PI.imp (pi_str h) fun σ H R ⟨Θ, I, τ, ρ, δ, P, Xx, s, w, kk, x⟩ => ?_
  refine ⟨Θ, I, τ, ρ, δ, _, Xx, s, w, fun a ρ' v H' I' ok s' w' => ?_, x⟩
  cases q : a.2 with
  | str z =>
    rw [q] at w'
    refine ⟨z, s'.topI q fun _ z => z, ?_⟩
    exact kk _ ρ' [v] [a] [] _ H' I' s' (fun q hq => by cases hq) (itok_c z) w'
  | _ => rw [q] at w'; exact w'.elim
end
/-! ### comprehensions -/
abbrev Cn.quiet (C : Cn) : Cn := { C with W := fun _ _ _ _ => False }
section
variable {cf : Cf} {C : Cn} {k : Nat} {X : Cx} {sc : Scope}
theorem xc_blk (xc : XC cf C k X) (s : Shared) (H : Hp) (scope : Scope) (cenv : Env) (fp : List Addr) : XC cf C.quiet k (X.blk s H scope cenv fp) where
  N := xc.N
  nd := xc.nd
  calm := xc.calm
  K := xc.K
  room := xc.room
  tk := fun u s' ⟨a, B, sI, pins, σ, H, cls, d, e, I, nb, up, sky, na, os, ag, w⟩ => w.elim
  fns := xc.fns
  cst := xc.cst
  blt := xc.blt
  gcd := xc.gcd
  kitc := xc.kitc
  kite := xc.kite
  fld := xc.fld
  has := xc.has
  wK := xc.wK
  ms := xc.ms
  ok := xc.ok
  cls := xc.cls
theorem blk_of {scope : Scope} {own : List Nat} (h : blkB cf sc scope own = true) : BlkOk cf.N sc scope (ownP cf own) := by
  unfold blkB at h
  obtain ⟨h1, h⟩ := and_t h
  obtain ⟨h2, h⟩ := and_t h
  obtain ⟨h3, h⟩ := and_t h
  obtain ⟨h4, h5⟩ := and_t h
  refine ⟨?_, fun y hy => ?_, fun p hp => ?_, fun y hy e => ?_, fun y hy e => ?_⟩
  · cases q : scope.kind <;> rw [q] at h1 <;> first | rfl | cases h1
  · have := List.all_eq_true.mp h2 y hy
    simpa using this
  · obtain ⟨i, hi, rfl⟩ := List.mem_map.mp hp
    have := List.all_eq_true.mp h3 i hi
    cases q : cf.N[i]? with
    | none => rw [q] at this; cases this
    | some x =>
      simp only [q]
      rfl
  · have := List.all_eq_true.mp h4 y hy
    simp only [Bool.or_eq_true, decide_eq_true_eq] at this
    exact this.resolve_left fun z => z e
  · have := List.all_eq_true.mp h5 y hy
    simp only [Bool.or_eq_true, Bool.and_eq_true, decide_eq_true_eq] at this
    exact this.resolve_left fun z => e.elim z.1 z.2
theorem own_ix {own : List Nat} : (ownP cf own).map (·.2) = own := by
  unfold ownP
  rw [List.map_map]
  exact (List.map_congr_left (fun _ _ => rfl)).trans (List.map_id own)
theorem loc_blk {scope : Scope} {s : Shared} {H : Hp} {fp : List Addr} {cl : List (Str × Addr)} {Ca : Addr} : LocOk (X.blk s H scope (compEnvC scope cl Ca X.env) fp) scope := by
  intro x h
  unfold locB at h
  cases q : scope.names.lookup x with
  | none => rw [q] at h; cases h
  | some kd =>
    rw [q] at h
    cases kd with
    | «local» => exact ⟨.inl (lookup_relS_keep (by simp) q), .inr (lookup_relS_keep (by simp) q)⟩
    | cell =>
      refine ⟨.inr (lookup_relS_keep (by simp) q), .inl ?_⟩
      show (scope.names.lookup x == some .cell) = true
      rw [q]
      rfl
    | _ => cases h
theorem comp_read {own : List Nat} {tg : Tg} {it : It} {c : B} {e : T} {tt : TT} (hown : ∀ i ∈ tgIx tg, i ∈ own) (ht : ∀ σ H Q, tB C.quiet c σ H Q → tt σ H Q) : ∀ σ H Q, tE C (.comp own tg it c e) σ H Q → tLc (tI C it) (tG C.quiet tg) tt (tE C.quiet e) own σ H Q := by
  intro σ H Q ⟨Θ, I, τ, ρ, δ, P, Xx, s, w, kk, x⟩
  refine ⟨Θ, I, τ, ρ, δ, _, Xx, s, w, fun items ρ' τ' δ' srcs J H' I' s' src iok ⟨hz, hw, hf⟩ L hL => ?_, x⟩
  have np := wipeB_not s' hw
  have l3 : (τ ++ τ').length = (δ ++ δ').length := s'.l2
  let W : Nat → Nat → Hp → Prop := fun i m H => m = items.length - i ∧ i ≤ items.length ∧ ∃ I2 acc ρ2, S0 C.N Θ I2 (wipe σ own) (τ ++ τ' ++ [.ref L]) H ρ2 (δ ++ δ' ++ [(.own, .lst acc)]) ∧ acc.length ≤ i ∧
    forP (α := List D × Rho) (fun d a K => asgTg tg (.imm, d) a.2 fun ρ1 => wpB C.G c ρ1 (fun k ρ2 =>
          if k = true then wpE C.G e ρ2 (fun v ρ3 => K (a.1 ++ [v.2], ρ3.wipe own)) (fun _ _ => False) else K (a.1, ρ2.wipe own)) (fun _ _ => False))
        (fun a => P (.own, .lst a.1) a.2) (items.drop i) (acc, ρ2)
  refine ⟨W, ⟨items.length, rfl, Nat.zero_le _, I', [], ρ'.wipe own, ?_, Nat.zero_le _, hf⟩, fun i m H2 hW => ?_⟩
  · exact S0.wipe (s'.step (.own (d := .lst []) hL ⟨[], upd_same, rfl⟩)) np
  obtain ⟨hm, hi, I2, acc, ρ2, s2, ha, hfp⟩ := hW
  have reps := src.reps s2
  obtain ⟨it1, it2⟩ := iok I2 H2 reps i
  by_cases hlt : i < items.length
  · right
    obtain ⟨go, yl⟩ := it1 items[i] (List.getElem?_eq_getElem hlt)
    rw [List.drop_eq_getElem_cons hlt] at hfp
    refine ⟨go, fun H' => ∃ m', m' < m ∧ W (i + 1) m' H', fun H' z => z, fun xv H3 hy => ?_⟩
    obtain ⟨I3, st⟩ := yl xv H3 hy
    have s3 := s2.step st
    refine ⟨Θ, I3, _, ρ2, _, _, _, s3, hfp, fun ρ3 σ3 s4 sm hc => ⟨?_, ?_⟩⟩
    · have z := sm own hown
      rw [wipe_wipe] at z
      exact z
    have sw : wipe σ3 own = wipe σ own := by
      have z := sm own hown
      rw [wipe_wipe] at z
      exact z
    refine ht σ3 H3 _ ⟨Θ, I3, _, ρ3, _, _, _, s4, hc, fun kb ρ4 H4 I4 s5 hk => ?_, fun _ _ _ _ _ _ _ _ z => z.elim⟩
    cases kb with
    | false =>
      simp only [Bool.false_eq_true, if_false] at hk ⊢
      refine ⟨items.length - (i + 1), by omega, rfl, by omega, I4, acc, ρ4.wipe own, ?_, by omega, hk⟩
      rw [← sw]
      exact s5.wipe np
    | true =>
      simp only [if_true] at hk ⊢
      refine ⟨Θ, I4, _, ρ4, _, _, _, s5, hk, fun a5 ρ5 v5 H5 I5 ok5 s6 hfin => ?_, fun _ _ _ _ _ _ _ _ z => z.elim⟩
      obtain ⟨I6, up6, s7, rv⟩ := s6.leakT
      -- the list as it stands
      have hd : (δ ++ δ' ++ [(Fl.own, D.lst acc)] ++ [(leakF a5.1, a5.2)])[(δ ++ δ').length]? = some (.own, .lst acc) := by
        rw [List.append_assoc (δ ++ δ')]
        simp
      have hv : (τ ++ τ' ++ [V.ref L] ++ [v5])[(δ ++ δ').length]? = some (.ref L) := by
        rw [← l3, List.append_assoc (τ ++ τ')]
        simp
      obtain ⟨u, hu, ru⟩ := s7.hand hd
      rw [hv] at hu
      cases hu
      obtain ⟨q, eq, nI, vs, hvs, rl⟩ := (repV_own (a := (Fl.own, D.lst acc)) rfl).mp ru
      cases eq
      have la : vs.length = acc.length := rl.len
      refine ⟨vs, hvs, by have := sizeLine_eq; simp only [line] at hz; omega, ?_⟩
      have nI6 : ¬ I6 L := nI
      have keep : ∀ (p : Addr) (o : HO), I6 p → H5 p = some o → (upd H5 L (.lst (vs ++ [v5]))) p = some o := fun p o ip z => by
        rw [upd_ne (fun (e : p = L) => nI6 (e ▸ ip))]
        exact z
      have c : OwnC C.N I6 (upd H5 L (.lst (vs ++ [v5]))) L (.lst (acc ++ [a5.2])) := ⟨vs ++ [v5], upd_same, RepL.mono (fun _ z => z) keep _ _ (rl.app ⟨v5, [], rfl, rv, rfl⟩)⟩
      have s8 := s7.writeT hd rfl hv c
      have es : (δ ++ δ' ++ [(Fl.own, D.lst acc)] ++ [(leakF a5.1, a5.2)]).set (δ ++ δ').length (Fl.own, .lst (acc ++ [a5.2])) = δ ++ δ' ++ [(Fl.own, .lst (acc ++ [a5.2]))] ++ [(leakF a5.1, a5.2)] := by
        rw [List.append_assoc (δ ++ δ'), List.append_assoc (δ ++ δ'), List.set_append_right _ _ (Nat.le_refl _)]
        simp
      rw [es] at s8
      refine ⟨items.length - (i + 1), by omega, rfl, by omega, I6, acc ++ [a5.2], ρ5.wipe own, ?_, by simp; omega, hfin⟩
      rw [← sw]
      exact s8.pop.wipe np
  · left
    have ei : items.length ≤ i := by omega
    refine ⟨it2 ei, ?_⟩
    rw [List.drop_eq_nil_of_le ei] at hfp
    have hfp : P (.own, .lst acc) ρ2 := hfp
    exact kk _ ρ2 (.ref L) H2 I2 (.inr rfl) (S0.mid s2.unwipe s.l2) hfp
end
end Ev
set_option Elab.async false
set_option linter.all false
set_option autoImplicit false
set_option maxRecDepth 100000
set_option maxHeartbeats 1000000
namespace Ev
open PySem PySem.Spec PyProof.Rows L2
def isBop : Expr → Bool
  | .BoolOp _ _ _ => true
  | _ => false
theorem not_set {e : Expr} {env : Env} (h : notSet e = true) (x : Value) : foldedSetIterable e env x = pure x := by
  cases e with
  | Set _ _ _ => cases h
  | _ => rfl
abbrev ESnd (t : T) : Prop := ∀ (cf : Cf) (C : Cn) (k : Nat) (X : Cx) (sc : Scope) (e : Expr), XC cf C k X → X.env.scope = sc → chkE cf sc t e = true → PE X e (tE C t) ∧ (isCmpT e = true → (∃ f os, t = .op f os ∧ PT X e (tTest (tOpX C f os))) ∨ PT X e (tB C (.t t)))
abbrev OSnd (os : Os) : Prop := ∀ (cf : Cf) (C : Cn) (k : Nat) (X : Cx) (sc : Scope) (es : List Expr), XC cf C k X → X.env.scope = sc → chkOs cf sc os es = true → ∃ ts, Paired (PEM X) es ts ∧ (∀ σ H K, tOs C os σ H K → tAllN (flags os) ts σ H K) ∧ ∀ y ∈ es, notStar y = true
abbrev TSnd (ts : Ts) : Prop := ∀ (cf : Cf) (C : Cn) (k : Nat) (X : Cx) (sc : Scope) (es : List Expr), XC cf C k X → X.env.scope = sc → chkTs cf sc ts es = true → PA X es (tTs C ts)
abbrev FSnd (ts : Ts) : Prop := ∀ (cf : Cf) (C : Cn) (k : Nat) (X : Cx) (sc : Scope) (es : List Expr), XC cf C k X → X.env.scope = sc → chkF cf sc ts es = true → ∃ us : List TE, PJ X es us ∧ ∀ acc σ H K, tFs C ts acc σ H K → tJs us acc σ H K
abbrev BSnd (b : B) : Prop := ∀ (cf : Cf) (C : Cn) (k : Nat) (X : Cx) (sc : Scope) (e : Expr), XC cf C k X → X.env.scope = sc → chkB cf sc b e = true → PT X e (tB C b) ∧ (isBop e = true → PW X e (tB C b))
abbrev ISnd (it : It) : Prop := ∀ (cf : Cf) (C : Cn) (k : Nat) (X : Cx) (sc : Scope) (tg e : Expr), XC cf C k X → X.env.scope = sc → chkIt cf sc it tg e = true → PI X tg e (tI C it)
theorem os_e {t : T} {r : Os} {cf : Cf} {C : Cn} {k : Nat} {X : Cx} {sc : Scope} {es : List Expr} (ht : ESnd t) (hr : OSnd r) (xc : XC cf C k X) (hs : X.env.scope = sc) {e : Expr} (h : (notStar e && (chkE cf sc t e && chkOs cf sc r es)) = true) :
    ∃ ts, Paired (PEM X) (e :: es) (tE C t :: ts) ∧ (∀ σ H K, tOs C r σ H K → tAllN (flags r) ts σ H K) ∧ ∀ y ∈ e :: es, notStar y = true := by
  obtain ⟨h1, h⟩ := and_t h
  obtain ⟨h2, h3⟩ := and_t h
  obtain ⟨ts, a, b, c⟩ := hr cf C k X sc es xc hs h3
  exact ⟨ts, .cons ⟨(ht cf C k X sc e xc hs h2).1, mono_tE C t⟩ a, b, fun y hy => (List.mem_cons.mp hy).elim (fun z => z ▸ h1) (c y)⟩
theorem and_two {t u : T} {cf : Cf} {C : Cn} {k : Nat} {X : Cx} {sc : Scope} (ht : ESnd t) (hu : ESnd u) (xc : XC cf C k X) (hs : X.env.scope = sc) {a b : Expr} {es : List Expr} {p : Pos} {op : BoolOp} (h : (chkE cf sc t a && chkE cf sc u (if es.isEmpty then b else .BoolOp op (b :: es) p)) = true) :
    PE X a (tE C t) ∧ PE X (.BoolOp op (b :: es) p) (tE C u) := by
  obtain ⟨h1, h2⟩ := and_t h
  refine ⟨(ht cf C k X sc a xc hs h1).1, ?_⟩
  cases es with
  | nil => exact pe_one (hu cf C k X sc b xc hs h2).1
  | cons c es => exact (hu cf C k X sc _ xc hs h2).1
theorem imm_read {C : Cn} {t : T} : ∀ σ H Q, tE C (.imm t) σ H Q → tE C t σ H Q := by
  intro σ H Q ⟨Θ, I, τ, ρ, δ, P, Xx, s, w, kk, x⟩
  refine ⟨Θ, I, τ, ρ, δ, _, Xx, s, w, fun a ρ' v H' I' ok s' p => ?_, x⟩
  obtain ⟨I2, _, s2, _⟩ := s'.leakT
  refine kk _ ρ' v H' I2 (.inl ?_) s2 p
  rcases ok with e | e <;> rw [e] <;> rfl
theorem calm_at {ρ : Rho} {δ : List Val} {i : Nat} {a : Val} (h : (ρ.calm ++ (δ.map fun a => ((.imm, a.2) : Val)).map some)[i]? = some (some a)) : ∃ f, (ρ ++ δ.map some)[i]? = some (some (f, a.2)) ∧ a.1 = .imm := by
  have e : ρ.calm ++ (δ.map fun a => ((.imm, a.2) : Val)).map some = (ρ ++ δ.map some).map (Option.map fun a => (.imm, a.2)) := by
    unfold Rho.calm
    rw [List.map_append, List.map_map, List.map_map]
    rfl
  rw [e, List.getElem?_map] at h
  cases q : (ρ ++ δ.map some)[i]? with
  | none => rw [q] at h; cases h
  | some x =>
    cases x with
    | none => rw [q] at h; cases h
    | some b =>
      rw [q] at h
      cases h
      exact ⟨b.1, rfl, rfl⟩
/-- all own lists are looked at: nothing that stands is changed -/
theorem S0.quiet {N : Nm} {Θ : Th} {I : Addr → Prop} {σ : L2.St} {τ : List V} {H : Hp} {ρ : Rho} {δ : List Val} (s : S0 N Θ I σ τ H ρ δ) : ∃ I1 : Addr → Prop, S0 N ⟨H, I1, fun _ => False, []⟩ I1 σ τ H ρ.calm (δ.map fun a => ((.imm, a.2) : Val)) := by
  refine ⟨fun p => I p ∨ ∃ (i : Nat) (a : Val), (ρ ++ δ.map some)[i]? = some (some a) ∧ ownF a.1 = true ∧ (σ ++ τ.map some)[i]? = some (some (V.ref p)), ⟨⟨fun i a h => ?_, fun i j p a b h1 _ o1 _ _ _ => ?_, fun p o z _ => z, fun p o z => ⟨o, z⟩, fun p z => z, fun p z => .inl z, fun p z => ?_, fun i a p h ow _ => ?_, fun i p h => by simp at h⟩, ?_, by simp [s.l2], by simp⟩⟩
  · obtain ⟨f, hf, ea⟩ := calm_at h
    obtain ⟨v, hv, rv⟩ := s.r.rep i _ hf
    refine ⟨v, hv, ?_⟩
    obtain ⟨a1, a2⟩ := a
    have ea : a1 = .imm := ea
    subst ea
    refine (repV_imm (a := (.imm, a2)) rfl).mpr ?_
    cases q : ownF f with
    | false => exact Rep.mono (fun _ z => .inl z) (fun _ _ _ z => z) _ _ ((repV_imm (a := (f, a2)) q).mp rv)
    | true =>
      obtain ⟨p, rfl, nI, c⟩ := (repV_own (a := (f, a2)) q).mp rv
      exact OwnC.rep (.inr ⟨i, _, hf, q, hv⟩) (OwnC.mono (fun _ z => .inl z) (fun _ _ _ z => z) (fun _ z => z) c)
  · obtain ⟨_, _, ea⟩ := calm_at h1
    rw [ea] at o1
    cases o1
  · rcases z with z | ⟨i, a, h, ow, hv⟩
    · exact s.r.there p z
    · obtain ⟨v, hv', rv⟩ := s.r.rep i a h
      rw [hv] at hv'
      cases hv'
      obtain ⟨p', e, _, c⟩ := (repV_own ow).mp rv
      cases e
      exact c.there
  · obtain ⟨_, _, ea⟩ := calm_at h
    rw [ea] at ow
    cases ow
  · show σ.length = (ρ.map _).length
    rw [List.length_map]
    exact s.l1
theorem flat_rep {N : Nm} {I I' : Addr → Prop} {H : Hp} {d : D} {v : V} (h : flatD d = true) (r : Rep N I H d v) : Rep N I' H d v := by
  cases d <;> first | exact r | cases h
theorem own_flat {N : Nm} {I : Addr → Prop} {H : Hp} {a : Val} {v : V} (h : flatD a.2 = true) (r : RepV N I H a v) : Rep N I H a.2 v := by
  cases q : ownF a.1 with
  | false => exact (repV_imm q).mp r
  | true =>
    obtain ⟨p, rfl, _, c⟩ := (repV_own q).mp r
    obtain ⟨f, d⟩ := a
    cases d <;> first | (cases h; done) | exact c.elim
theorem pure_read {C : Cn} {t : T} : ∀ σ H Q, tE C (.pure t) σ H Q → tE C t σ H Q := by
  intro σ H Q ⟨Θ, I, τ, ρ, δ, P, Xx, s, w, kk, x⟩
  obtain ⟨I1, s1⟩ := s.quiet
  refine ⟨_, I1, τ, ρ.calm, _, _, _, s1, w, fun a ρ' v H' I' ok s' ⟨fl, p⟩ => ?_, fun _ _ _ _ _ _ _ _ z => z.elim⟩
  have up : ∀ p o, H p = some o → H' p = some o := fun p o z => s'.r.keep p o z fun z => z
  have rv := own_flat fl s'.top
  have s2 : S0 C.N Θ I σ τ H' ρ δ := ⟨s.r.grow up, s.l1, s.l2, s.lp⟩
  exact kk (.imm, a.2) ρ v H' I (.inl rfl) (s2.step (.old (flat_rep fl rv))) p
mutual
theorem e_sound : ∀ t : T, ESnd t
  | .var i => fun cf C k X sc e xc hs h => by
    cases e with
    | Name x p => exact ⟨PE.imp (pe_nm xc hs h) var_read, fun z => by cases z⟩
    | _ => cases h
  | .cst d => fun cf C k X sc e xc hs h => by
    cases e with
    | Constant c j p => exact ⟨pe_cst h, fun z => by cases z⟩
    | _ => cases h
  | .glo g => fun cf C k X sc e xc hs h => by
    cases e with
    | Name x p => exact ⟨pe_glo xc hs h, fun z => by cases z⟩
    | _ => cases h
  | .op f os => fun cf C k X sc e xc hs h => by
    have h : (match opArgs cf sc f os e with | some es => chkOs cf sc os es | none => false) = true := h
    cases q : opArgs cf sc f os e with
    | none => rw [q] at h; cases h
    | some es =>
      rw [q] at h
      cases hm : isMethE e with
      | false =>
        obtain ⟨ts, a, b, c⟩ := o_sound os cf C k X sc es xc hs h
        obtain ⟨r1, r2⟩ := op_sound xc hs hm q c a b
        exact ⟨PE.imp r1 op_x, fun z => .inl ⟨f, os, rfl, r2 z⟩⟩
      | true =>
        have key : ∃ o m apos e1 cpos, e = .Call (.Attribute o m apos) [e1] [] cpos := by
          cases e with
          | Call g es1 kws cpos =>
            cases g with
            | Attribute o m apos =>
              rcases es1 with _ | ⟨e1, _ | ⟨_, _⟩⟩
              · cases kws <;> cases q
              · cases kws with
                | nil => exact ⟨o, m, apos, e1, cpos, rfl⟩
                | cons _ _ => cases q
              · cases kws <;> cases q
            | _ => cases hm
          | _ => cases hm
        obtain ⟨o, m, apos, e1, cpos, rfl⟩ := key
        have q : (if (decide (methN f = some m) && ((apos.endLine == cpos.line) && (methOs os && (isName o && notStar e1)))) = true then some [o, e1] else none) = some es := q
        by_cases cc : (decide (methN f = some m) && ((apos.endLine == cpos.line) && (methOs os && (isName o && notStar e1)))) = true
        · rw [if_pos cc] at q
          cases q
          obtain ⟨c1, cc⟩ := and_t cc
          obtain ⟨c2, cc⟩ := and_t cc
          obtain ⟨c3, cc⟩ := and_t cc
          obtain ⟨c4, c5⟩ := and_t cc
          exact ⟨meth_sound xc hs (by simpa using c1) c2 c3 c4 c5 h, fun z => by cases z⟩
        · rw [if_neg cc] at q
          cases q
  | .call g os => fun cf C k X sc e xc hs h => by
    have h : (match callArgs cf sc g (flags os) e with | some es => chkOs cf sc os es | none => false) = true := h
    cases q : callArgs cf sc g (flags os) e with
    | none => rw [q] at h; cases h
    | some es =>
      rw [q] at h
      obtain ⟨ts, a, b, c⟩ := o_sound os cf C k X sc es xc hs h
      obtain ⟨r1, r2⟩ := call_sound xc hs q c a b
      exact ⟨r1, fun z => .inr (r2 z)⟩
  | .pure t => fun cf C k X sc e xc hs h => by
    obtain ⟨h1, h2⟩ := and_t (show (notCmpE e && chkE cf sc t e) = true from h)
    exact ⟨PE.imp (e_sound t cf C k X sc e xc hs h2).1 pure_read, fun z => by cases e <;> first | (cases z; done) | (cases h1; done)⟩
  | .take i => fun cf C k X sc e xc hs h => by
    cases e with
    | Name x p =>
      refine ⟨PE.imp (pe_nm xc hs h) fun σ H Q ⟨Θ, I, τ, ρ, δ, P, Xx, s, w, kk, x⟩ => ?_, fun z => by cases z⟩
      cases q : ρ.at i with
      | none =>
        have w : (match ρ.at i with | some (.own, d) => P (.own, d) (ρ.put i none) | some (.imm, d) => P (.imm, d) ρ | _ => False) := w
        rw [q] at w
        exact w.elim
      | some a =>
        obtain ⟨f, d⟩ := a
        have w : (match ρ.at i with | some (.own, d) => P (.own, d) (ρ.put i none) | some (.imm, d) => P (.imm, d) ρ | _ => False) := w
        rw [q] at w
        obtain ⟨v, hv, r⟩ := s.slot q
        cases f with
        | own => exact ⟨v, hv, kk _ _ v H I (.inr rfl) (s.take q hv) w⟩
        | imm => exact ⟨v, hv, kk _ _ v H I (.inl rfl) (s.step (.old ((repV_imm rfl).mp r))) w⟩
        | par => exact w.elim
        | parl => exact w.elim
    | _ => cases h
  | .meth g cs t os => fun cf C k X sc e xc hs h => by
    have h : (match methArgs cf g cs (flags os) e with | some (o, es) => chkE cf sc t o && chkOs cf sc os es | none => false) = true := h
    cases q : methArgs cf g cs (flags os) e with
    | none => rw [q] at h; cases h
    | some p =>
      obtain ⟨o, es⟩ := p
      rw [q] at h
      obtain ⟨h1, h2⟩ := and_t h
      obtain ⟨ts, a, b, c⟩ := o_sound os cf C k X sc es xc hs h2
      obtain ⟨r1, r2⟩ := methx_sound xc hs q (e_sound t cf C k X sc o xc hs h1).1 c a b
      exact ⟨r1, fun z => by rw [r2] at z; cases z⟩
  | .tup ts => fun cf C k X sc e xc hs h => by
    cases e with
    | Tuple es x1 p =>
      obtain ⟨h1, h2⟩ := and_t (show (decide (lenT ts ≤ 16777216) && chkTs cf sc ts es) = true from h)
      exact ⟨PE.imp (pe_tup (t_sound ts cf C k X sc es xc hs h2)) (tup_read (by simpa using h1)), fun z => by cases z⟩
    | _ => cases h
  | .lst ts => fun cf C k X sc e xc hs h => by
    cases e with
    | List es p =>
      obtain ⟨h1, h2⟩ := and_t (show (decide (lenT ts ≤ 16777216) && chkTs cf sc ts es) = true from h)
      exact ⟨PE.imp (pe_lst (t_sound ts cf C k X sc es xc hs h2)) (lst_read (by simpa using h1)), fun z => by cases z⟩
    | _ => cases h
  | .ife c a b => fun cf C k X sc e xc hs h => by
    cases e with
    | IfExp c' a' b' p =>
      obtain ⟨h1, h⟩ := and_t (show (chkB cf sc c c' && (chkE cf sc a a' && chkE cf sc b b')) = true from h)
      obtain ⟨h2, h3⟩ := and_t h
      exact ⟨PE.imp (pe_ifExp (b_sound c cf C k X sc c' xc hs h1).1 (e_sound a cf C k X sc a' xc hs h2).1 (e_sound b cf C k X sc b' xc hs h3).1) ife_read, fun z => by cases z⟩
    | _ => cases h
  | .and_ a b => fun cf C k X sc e xc hs h => by
    cases e with
    | BoolOp op es p =>
      cases op with
      | And =>
        match es, h with
        | a' :: b' :: es, h =>
          obtain ⟨pa, pb⟩ := and_two (e_sound a) (e_sound b) xc hs (op := .And) (a := a') (b := b') (es := es) (p := p) h
          exact ⟨PE.imp (pe_and pa pb) and_read, fun z => by cases z⟩
        | [], h => cases h
        | [_], h => cases h
      | Or => cases h
    | _ => cases h
  | .or_ a b => fun cf C k X sc e xc hs h => by
    cases e with
    | BoolOp op es p =>
      cases op with
      | Or =>
        match es, h with
        | a' :: b' :: es, h =>
          obtain ⟨pa, pb⟩ := and_two (e_sound a) (e_sound b) xc hs (op := .Or) (a := a') (b := b') (es := es) (p := p) h
          exact ⟨PE.imp (pe_or pa pb) or_read, fun z => by cases z⟩
        | [], h => cases h
        | [_], h => cases h
      | And => cases h
    | _ => cases h
  | .not_ a => fun cf C k X sc e xc hs h => by
    cases e with
    | UnaryOp op a' p =>
      cases op with
      | Not => exact ⟨PE.imp (pe_not (e_sound a cf C k X sc a' xc hs h).1) not_read, fun z => by cases z⟩
      | _ => cases h
    | _ => cases h
  | .comp own tg it c e0 => fun cf C k X sc e xc hs h => by
    cases e with
    | ListComp elt gens scope p =>
      match gens, h with
      | [⟨tg', iter, ifs, as⟩], h =>
        obtain ⟨h0, hh⟩ := and_t (show (decide (as = 0) && (blkB cf sc scope own && ((tgIx tg).all (fun i => decide (i ∈ own)) && (notSet iter && (chkTg cf scope tg tg' && (chkIt cf sc it tg' iter && (ifsOf (fun q => chkB cf (relS scope sc) c q) (isTT c) ifs && chkE cf (relS scope sc) e0 elt))))))) = true from h)
        obtain ⟨h1, hh⟩ := and_t hh
        obtain ⟨h2, hh⟩ := and_t hh
        obtain ⟨h3, hh⟩ := and_t hh
        obtain ⟨h4, hh⟩ := and_t hh
        obtain ⟨h5, hh⟩ := and_t hh
        obtain ⟨h6, h7⟩ := and_t hh
        clear h
        have e0' : as = 0 := by simpa using h0
        subst e0'
        have hown : ∀ i ∈ tgIx tg, i ∈ own := fun i hi => by simpa using List.all_eq_true.mp h2 i hi
        have sb : ∀ (cl : List (Str × Addr)) (Ca : Addr), (compEnvC scope cl Ca X.env).scope = relS scope sc := fun cl Ca => by rw [← hs]; rfl
        have key : ∃ tt : TT, (∀ σ H Q, tB C.quiet c σ H Q → tt σ H Q) ∧ ∀ (s : Shared) (H : Hp) (Ca : Addr) (cl : List (Str × Addr)) (fp : List Addr), PTs (X.blk s H scope (compEnvC scope cl Ca X.env) fp) ifs tt := by
          cases ifs with
          | nil =>
            refine ⟨tYes, ?_, fun s H Ca cl fp => pts_nil⟩
            intro σ H Q ⟨Θ, I, τ, ρ, δ, P, Xx, st, w, kk, x⟩
            have w : P true ρ := by
              cases c with
              | tt => exact w
              | _ => cases h6
            exact kk true ρ H I st w
          | cons c' r =>
            cases r with
            | nil =>
              have h6 : chkB cf (relS scope sc) c c' = true := h6
              refine ⟨tB C.quiet c, fun _ _ _ q => q, fun s H Ca cl fp => pts_one (b_sound c cf C.quiet k _ (relS scope sc) c' (xc_blk xc s H scope _ fp) (sb cl Ca) h6).1⟩
            | cons _ _ => cases h6
        obtain ⟨tt, k1, k2⟩ := key
        refine ⟨?_, fun z => by cases z⟩
        have bo : BlkOk X.N X.env.scope scope (ownP cf own) := by rw [xc.N, hs]; exact blk_of h1
        have pc := pe_lc (X := X) (elt := elt) (tg := tg') (iter := iter) (ifs := ifs) (scope := scope) (own := ownP cf own) (pos := p) (wi := tI C it) (g := tG C.quiet tg) (tt := tt) (te := tE C.quiet e0) xc.calm (by rw [xc.N]; exact xc.nd) (i_sound it cf C k X sc tg' iter xc hs h5) bo
          (fun s H Ca cl fp => pg_sound (cf := cf) (C := C.quiet) (X := X.blk s H scope (compEnvC scope cl Ca X.env) fp) xc.N xc.nd xc.calm xc.K loc_blk h4) k2 (fun s H Ca cl fp => (e_sound e0 cf C.quiet k _ (relS scope sc) elt (xc_blk xc s H scope _ fp) (sb cl Ca) h7).1) (not_set h3)
        rw [own_ix] at pc
        exact PE.imp pc (comp_read hown k1)
      | [], h => cases h
      | ⟨_, _, _, _⟩ :: _ :: _, h => cases h
    | _ => cases h
  | .imm t => fun cf C k X sc e xc hs h => by
    have h : (notCmpE e && chkE cf sc t e) = true := h
    rw [Bool.and_eq_true] at h
    exact ⟨PE.imp (e_sound t cf C k X sc e xc hs h.2).1 imm_read, fun z => by cases e <;> first | (cases z; done) | (cases h.1)⟩
  | .fmt ts => fun cf C k X sc e xc hs h => by
    cases e with
    | JoinedStr vs p =>
      match vs, h with
      | v1 :: v2 :: rest, h =>
        obtain ⟨us, pj, rd⟩ := f_sound ts cf C k X sc (v1 :: v2 :: rest) xc hs h
        exact ⟨PE.imp (pe_joined pj) fun σ H Q q => rd _ σ H _ (fmt_read σ H Q q), fun z => by cases z⟩
      | [], h => cases h
      | [_], h => cases h
    | _ => cases h
theorem f_sound : ∀ ts : Ts, FSnd ts
  | .nil => fun cf C k X sc es xc hs h => by
    cases es with
    | nil => exact ⟨[], .nil, fun acc σ H K ⟨Θ, I, τ, ρ, δ, P, Xx, s, w, kk, x⟩ => kk acc ρ H I s w⟩
    | cons _ _ => cases h
  | .cons t r => fun cf C k X sc es xc hs h => by
    cases es with
    | nil => cases h
    | cons v es =>
      cases v with
      | FormattedValue e c fs p =>
        cases fs with
        | none =>
          obtain ⟨h1, h⟩ := and_t (show (decide (c = -1) && (chkE cf sc t e && chkF cf sc r es)) = true from (by
            cases t with
            | cst d => cases d <;> exact h
            | _ => exact h))
          obtain ⟨h2, h3⟩ := and_t h
          have ec : c = -1 := by simpa using h1
          subst ec
          obtain ⟨us, pj, rd⟩ := f_sound r cf C k X sc es xc hs h3
          exact ⟨_, .cons (pe_fmt (e_sound t cf C k X sc e xc hs h2).1) pj, fmtC_read rd⟩
        | some _ =>
          cases t with
          | cst d => cases d <;> cases h
          | _ => cases h
      | Constant c j p =>
        cases c with
        | str z' =>
          cases t with
          | cst d =>
            cases d with
            | str z =>
              obtain ⟨h1, h2⟩ := and_t (show (decide (z = z') && chkF cf sc r es) = true from h)
              have ez : z = z' := by simpa using h1
              subst ez
              obtain ⟨us, pj, rd⟩ := f_sound r cf C k X sc es xc hs h2
              exact ⟨_, .cons pe_str pj, fmtS_read rd⟩
            | _ => cases h
          | _ => cases h
        | _ =>
          cases t with
          | cst d => cases d <;> cases h
          | _ => cases h
      | _ =>
        cases t with
        | cst d => cases d <;> cases h
        | _ => cases h
theorem o_sound : ∀ os : Os, OSnd os
  | .nil => fun cf C k X sc es xc hs h => by
    cases es with
    | nil => exact ⟨[], .nil, fun σ H K ⟨Θ, I, τ, ρ, δ, P, Xx, s, w, kk, x⟩ => kk [] ρ [] [] [] H I (by simpa using s) rfl w, fun y hy => by cases hy⟩
    | cons _ _ => cases h
  | .v i r => fun cf C k X sc es xc hs h => by
    cases es with
    | nil => cases h
    | cons e es =>
      cases e with
      | Name x p =>
        obtain ⟨h1, h2⟩ := and_t (show (nameB cf sc i x && chkOs cf sc r es) = true from h)
        obtain ⟨ts, a, b, c⟩ := o_sound r cf C k X sc es xc hs h2
        exact ⟨tVar i :: ts, .cons ⟨pe_nm xc hs h1, mono_var i⟩ a, osV_read b, fun y hy => (List.mem_cons.mp hy).elim (fun z => by rw [z]; rfl) (c y)⟩
      | _ => cases h
  | .e t r => fun cf C k X sc es xc hs h => by
    cases es with
    | nil => cases h
    | cons e es =>
      obtain ⟨ts, a, b, c⟩ := os_e (e_sound t) (o_sound r) xc hs h
      exact ⟨tE C t :: ts, a, osE_read b, c⟩
  | .n t r => fun cf C k X sc es xc hs h => by
    cases es with
    | nil => cases h
    | cons e es =>
      obtain ⟨ts, a, b, c⟩ := os_e (e_sound t) (o_sound r) xc hs h
      exact ⟨tE C t :: ts, a, osN_read b, c⟩
theorem t_sound : ∀ ts : Ts, TSnd ts
  | .nil => fun cf C k X sc es xc hs h => by
    cases es with
    | nil => exact PA.imp pa_nil fun σ H K ⟨Θ, I, τ, ρ, δ, P, Xx, s, w, kk, x⟩ => kk [] ρ [] H I s rfl rfl w
    | cons _ _ => cases h
  | .cons t r => fun cf C k X sc es xc hs h => by
    cases es with
    | nil => cases h
    | cons e es =>
      obtain ⟨h1, h⟩ := and_t (show (notStar e && (chkE cf sc t e && chkTs cf sc r es)) = true from h)
      obtain ⟨h2, h3⟩ := and_t h
      exact PA.imp (pa_cons (e_sound t cf C k X sc e xc hs h2).1 (t_sound r cf C k X sc es xc hs h3) (star_cons h1)) tsC_read
theorem b_sound : ∀ b : B, BSnd b
  | .tt => fun cf C k X sc e xc hs h => by cases h
  | .t t => fun cf C k X sc e xc hs h => by
    obtain ⟨h1, h2⟩ := and_t (show ((plainT e || (isCmp e && cmpT t)) && chkE cf sc t e) = true from h)
    obtain ⟨r1, r2⟩ := e_sound t cf C k X sc e xc hs h2
    cases q : plainT e with
    | true => exact ⟨PT.imp (pt_truth r1 (plain_true q)) (t_read xc.K), fun z => by cases e <;> first | (cases z; done) | (cases q; done)⟩
    | false =>
      rw [q, Bool.false_or] at h1
      obtain ⟨h3, h4⟩ := and_t h1
      have hc : isCmpT e = true := by cases e <;> first | rfl | (cases h3; done)
      rcases r2 hc with ⟨f, os, rfl, pt⟩ | pt
      · exact ⟨PT.imp pt fun σ H Q hb => op_b h4 σ H Q hb, fun z => by cases e <;> first | (cases z; done) | (cases hc; done)⟩
      · exact ⟨pt, fun z => by cases e <;> first | (cases z; done) | (cases hc; done)⟩
  | .look i => fun cf C k X sc e xc hs h => by
    cases e with
    | Name x p => exact ⟨PT.imp (pt_truth (pe_nm xc hs h) (plain_true rfl)) (look_read xc.K), fun z => by cases z⟩
    | _ => cases h
  | .and_ a b => fun cf C k X sc e xc hs h => by
    cases e with
    | BoolOp op es p =>
      cases op with
      | And =>
        match es, h with
        | a' :: b' :: es, h =>
          obtain ⟨h1, h2⟩ := and_t (show (chkB cf sc a a' && (if es.isEmpty then chkB cf sc b b' else chkB cf sc b (.BoolOp .And (b' :: es) p))) = true from h)
          have pa := (b_sound a cf C k X sc a' xc hs h1).1
          have pb : PW X (.BoolOp .And (b' :: es) p) (tB C b) := by
            cases es with
            | nil => exact pw_and1 (b_sound b cf C k X sc b' xc hs h2).1
            | cons c es => exact (b_sound b cf C k X sc _ xc hs h2).2 rfl
          have pw : PW X (.BoolOp .And (a' :: b' :: es) p) (tB C (.and_ a b)) := ⟨fun wh pins s σ H Q I q => (pw_and pa pb).run wh pins s σ H Q I (andB_read σ H Q q)⟩
          exact ⟨pw.pt, fun _ => pw⟩
        | [], h => cases h
        | [_], h => cases h
      | Or => cases h
    | _ => cases h
  | .or_ a b => fun cf C k X sc e xc hs h => by
    cases e with
    | BoolOp op es p =>
      cases op with
      | Or =>
        match es, h with
        | a' :: b' :: es, h =>
          obtain ⟨h1, h2⟩ := and_t (show (chkB cf sc a a' && (if es.isEmpty then chkB cf sc b b' else chkB cf sc b (.BoolOp .Or (b' :: es) p))) = true from h)
          have pa := (b_sound a cf C k X sc a' xc hs h1).1
          have pb : PW X (.BoolOp .Or (b' :: es) p) (tB C b) := by
            cases es with
            | nil => exact pw_or1 (b_sound b cf C k X sc b' xc hs h2).1
            | cons c es => exact (b_sound b cf C k X sc _ xc hs h2).2 rfl
          have pw : PW X (.BoolOp .Or (a' :: b' :: es) p) (tB C (.or_ a b)) := ⟨fun wh pins s σ H Q I q => (pw_or pa pb).run wh pins s σ H Q I (orB_read σ H Q q)⟩
          exact ⟨pw.pt, fun _ => pw⟩
        | [], h => cases h
        | [_], h => cases h
      | And => cases h
    | _ => cases h
  | .not_ a => fun cf C k X sc e xc hs h => by
    cases e with
    | UnaryOp op a' p =>
      cases op with
      | Not => exact ⟨PT.imp (pt_not (b_sound a cf C k X sc a' xc hs h).1) notB_read, fun z => by cases z⟩
      | _ => cases h
    | _ => cases h
theorem i_sound : ∀ it : It, ISnd it
  | .seq t => fun cf C k X sc tg e xc hs h => pi_seq' xc (e_sound t cf C k X sc e xc hs h).1
  | .chars t => fun cf C k X sc tg e xc hs h => pi_chars (e_sound t cf C k X sc e xc hs h).1
  | .range os => fun cf C k X sc tg e xc hs h => by
    cases e with
    | Call f es kws p =>
      cases f with
      | Name x p' =>
        cases kws with
        | nil =>
          match es, h with
          | [a], h =>
            obtain ⟨h1, h⟩ := and_t (show (x == ("range" : Str) && (glB sc x && ((flags os).all (!·) && chkOs cf sc os [a]))) = true from h)
            obtain ⟨h2, h⟩ := and_t h
            obtain ⟨h3, h4⟩ := and_t h
            obtain ⟨ts, q1, q2, q3⟩ := o_sound os cf C k X sc [a] xc hs h4
            have ex := eq_of_beq h1
            subst ex
            exact pi_rng1 xc hs h2 h3 q3 q1 q2
          | [a, b], h =>
            obtain ⟨h1, h⟩ := and_t (show (x == ("range" : Str) && (glB sc x && ((flags os).all (!·) && chkOs cf sc os [a, b]))) = true from h)
            obtain ⟨h2, h⟩ := and_t h
            obtain ⟨h3, h4⟩ := and_t h
            obtain ⟨ts, q1, q2, q3⟩ := o_sound os cf C k X sc [a, b] xc hs h4
            have ex := eq_of_beq h1
            subst ex
            exact pi_rng2 xc hs h2 h3 q3 q1 q2
          | [], h => cases h
          | _ :: _ :: _ :: _, h => cases h
        | cons _ _ => rcases es with _ | ⟨_, _ | ⟨_, _ | _⟩⟩ <;> cases h
      | _ => cases h
    | _ => cases h
  | .zip t u => fun cf C k X sc tg e xc hs h => by
    cases e with
    | Call f es kws p =>
      cases f with
      | Name x p' =>
        cases kws with
        | nil =>
          match es, h with
          | [a, b], h =>
            obtain ⟨h1, h⟩ := and_t (show (x == ("zip" : Str) && (glB sc x && (isTupE tg && (notStar a && (notStar b && (chkE cf sc t a && chkE cf sc u b)))))) = true from h)
            obtain ⟨h2, h⟩ := and_t h
            obtain ⟨h3, h⟩ := and_t h
            obtain ⟨h4, h⟩ := and_t h
            obtain ⟨h5, h⟩ := and_t h
            obtain ⟨h6, h7⟩ := and_t h
            have ex := eq_of_beq h1
            subst ex
            exact pi_zip' xc hs h2 h3 h4 h5 (e_sound t cf C k X sc a xc hs h6).1 (e_sound u cf C k X sc b xc hs h7).1
          | [], h => cases h
          | [_], h => cases h
          | _ :: _ :: _ :: _, h => cases h
        | cons _ _ => rcases es with _ | ⟨_, _ | ⟨_, _ | _⟩⟩ <;> cases h
      | _ => cases h
    | _ => cases h
  | .enum t => fun cf C k X sc tg e xc hs h => by
    cases e with
    | Call f es kws p =>
      cases f with
      | Name x p' =>
        cases kws with
        | nil =>
          match es, h with
          | [a], h =>
            obtain ⟨h1, h⟩ := and_t (show (x == ("enumerate" : Str) && (glB sc x && (isTupE tg && (notStar a && chkE cf sc t a)))) = true from h)
            obtain ⟨h2, h⟩ := and_t h
            obtain ⟨h3, h⟩ := and_t h
            obtain ⟨h4, h5⟩ := and_t h
            have ex := eq_of_beq h1
            subst ex
            exact pi_enum' xc hs h2 h3 h4 (e_sound t cf C k X sc a xc hs h5).1
          | [], h => cases h
          | _ :: _ :: _, h => cases h
        | cons _ _ => rcases es with _ | ⟨_, _ | ⟨_, _ | _⟩⟩ <;> cases h
      | _ => cases h
    | _ => cases h
end
end Ev
set_option Elab.async false
set_option linter.all false
set_option autoImplicit false
set_option maxRecDepth 100000
set_option maxHeartbeats 1000000
namespace Ev
open PySem PySem.Spec PyProof.Rows L2
/-! ### statements -/
structure XS (cf : Cf) (C : Cn) (k : Nat) (X : Cx) : Prop extends XC cf C k X where
  own : PassesOwn (model X.prog X.w) X.A X.env X.xe
  fnT : ∀ x, X.fn x = true
  fk : X.env.scope.kind = .function
structure KOk (C : Cn) (Θ : Th) (τ : List V) (δ : List Val) (K : Kont) (D : Ends) : Prop where
  nx : ∀ ρ' σ' H' I', S0 C.N Θ I' σ' τ H' ρ' δ → K.nx ρ' → D.nx σ' H'
  bk : ∀ ρ' σ' H' I', S0 C.N Θ I' σ' τ H' ρ' δ → K.bk ρ' → D.bk σ' H'
  ct : ∀ ρ' σ' H' I', S0 C.N Θ I' σ' τ H' ρ' δ → K.ct ρ' → D.ct σ' H'
  rt : ∀ a ρ' σ' v H' I', okRes a → S0 C.N Θ I' σ' (τ ++ [v]) H' ρ' (δ ++ [a]) → K.rt a ρ' → D.rt v H'
  xx : ∀ σ', XOk C Θ σ' τ δ K.xx
def tS (C : Cn) (s : S) : TS := fun D σ H => ∃ Θ I τ ρ δ K, S0 C.N Θ I σ τ H ρ δ ∧ wpS C.G s ρ K ∧ KOk C Θ τ δ K D
def tSs (C : Cn) (s : Ss) : TS := fun D σ H => ∃ Θ I τ ρ δ K, S0 C.N Θ I σ τ H ρ δ ∧ wpSs C.G s ρ K ∧ KOk C Θ τ δ K D
theorem PS.imp {X : Cx} {st : Stmt} {t t' : TS} (h : PS X st t) (hi : ∀ D σ H, t' D σ H → t D σ H) : PS X st t' := ⟨fun pins s σ H D I q => h.run pins s σ H D I (hi _ _ _ q)⟩
theorem PSs.imp {X : Cx} {st : List Stmt} {t t' : TS} (h : PSs X st t) (hi : ∀ D σ H, t' D σ H → t D σ H) : PSs X st t' := ⟨fun pins s σ H D I q => h.run pins s σ H D I (hi _ _ _ q)⟩
/-! ### the checker -/
def notComp : Expr → Bool
  | .ListComp _ _ _ _ => false
  | .SetComp _ _ _ _ => false
  | .DictComp _ _ _ _ _ => false
  | _ => true
/-- the compiler's swapped stores, computed: none where the model has no answer -/
def nameAt (sc : Scope) (line : Nat) : Expr → Option Str
  | .Name id pos => if (sc.names.lookup id == some .local && pos.line == line) = true then some id else none
  | _ => none
def namesAt (sc : Scope) (line : Nat) (ts : List Expr) : List Str := ts.filterMap (nameAt sc line)
def swp (sc : Scope) (ts vs : List Expr) : Option (Option (List Str)) :=
  if (!(ts.length == 2 || ts.length == 3) || vs.length != ts.length) = true then some none
  else if vs.any (fun e => !notStar e) = true then some none
  else if ((namesAt sc ((ts.head?.map (·.pos.line)).getD 0) ts).length != ts.length || (namesAt sc ((ts.head?.map (·.pos.line)).getD 0) ts).eraseDups.length != (namesAt sc ((ts.head?.map (·.pos.line)).getD 0) ts).length) = true then some none
  else if vs.all (foldedForSure 8) = true then some none
  else if vs.all (constantsAlone 8) = true then none
  else some (some (namesAt sc ((ts.head?.map (·.pos.line)).getD 0) ts))
theorem swp_eq {sc : Scope} {ts vs : List Expr} {k1 k2 : Nat} {p1 p2 : Pos} {r : Option (List Str)} {env : Env} (h : swp sc ts vs = some r) (hs : env.scope = sc) (hk : sc.kind = .function) : swappedStores [.Tuple ts k1 p1] (.Tuple vs k2 p2) env = pure r := by
  have hb : env.blockKind = .function := by
    unfold Env.blockKind
    rw [hs, hk]
    rfl
  subst hs
  have hst : ∀ f : Expr → Bool, (∀ e, f e = !notStar e) → vs.any f = vs.any (fun e => !notStar e) := fun f hf => by
    rw [show f = fun e => !notStar e from funext hf]
  have hn : ∀ (line : Nat) (f : Expr → Option Str), (∀ e, f e = nameAt env.scope line e) → ts.filterMap f = namesAt env.scope line ts := fun line f hf => by
    rw [show f = nameAt env.scope line from funext hf]
    rfl
  unfold swappedStores
  simp only [hb]
  rw [hst _ (fun e => by cases e <;> rfl)]
  rw [hn ((ts.head?.map (·.pos.line)).getD 0) _ (fun e => by cases e <;> rfl)]
  unfold swp at h
  have hf : (ScopeKind.function != ScopeKind.function) = false := rfl
  rw [hf, Bool.or_false]
  split at h
  · rename_i q
    rw [if_pos q]
    cases h
    rfl
  · rename_i q
    rw [if_neg q]
    split at h
    · rename_i q
      rw [if_pos q]
      cases h
      rfl
    · rename_i q
      rw [if_neg q]
      split at h
      · rename_i q
        rw [if_pos q]
        cases h
        rfl
      · rename_i q
        rw [if_neg q]
        split at h
        · rename_i q
          rw [if_pos q]
          cases h
          rfl
        · rename_i q
          rw [if_neg q]
          split at h
          · cases h
          · rename_i q
            rw [if_neg q]
            cases h
            rfl
end Ev
set_option Elab.async false
set_option linter.all false
set_option autoImplicit false
set_option maxRecDepth 100000
set_option maxHeartbeats 1000000
namespace Ev
open PySem PySem.Spec PyProof.Rows L2
/-! ### a, b, .. = x, y, .. -/
def setL : L2.St → List Nat → List V → L2.St
  | σ, i :: is, v :: vs => setL (σ.set i (some v)) is vs
  | σ, _, _ => σ
def tParN (is : List Nat) (ta : TA) : TS := fun D σ H => ta σ H fun vs H1 => vs.length = is.length ∧ D.nx (setL σ is.reverse vs.reverse) H1
section
variable {X : Cx}
theorem stores {pins : List (Addr × Obj)} {H : Hp} {Q : Unit → Shared → Prop} (hN : X.N.Nodup) (hl : ∀ x : Str, X.env.scope.names.lookup x = some .local → True) : ∀ (js : List Nat) (xs : List Str) (vs : List V) (us : List Value) (σ : L2.St) (s : Shared), js.length = xs.length → (∀ k : Nat, ∀ i x, js[k]? = some i → xs[k]? = some x → X.N[i]? = some x ∧ X.env.scope.names.lookup x = some .local) → vs.length = js.length → Vals vs us → Inv X pins σ H s →
    (∀ s', Inv X pins (setL σ js vs) H s' → Q () s') → wpAny (model X.prog X.w) X.A (assignInOrder (xs.map fun n => bindName X.env n) us) Q X.xe s
  | [], [], vs, us, σ, s, _, _, lv, r, I, h => by
    have ev : vs = [] := List.eq_nil_of_length_eq_zero lv
    subst ev
    cases r
    exact assignInOrder_nil (h s I)
  | j :: js, x :: xs, v :: vs, us, σ, s, l, hx, lv, r, I, h => by
    cases r with
    | cons r rr =>
      obtain ⟨h1, h2⟩ := hx 0 j x rfl rfl
      refine assignInOrder_cons (wpAny_bindName (store_ok I hN h1 (.inl h2) r (fun s2 I2 => ?_) (.inr h2)))
      exact stores hN hl js xs vs _ _ s2 (by simpa using l) (fun k i y a b => hx (k + 1) i y a b) (by simpa using lv) rr I2 h
  | [], _ :: _, vs, us, σ, s, l, _, _, _, _, _ => by simp at l
  | _ :: _, [], vs, us, σ, s, l, _, _, _, _, _ => by simp at l
  | _ :: _, _ :: _, [], us, σ, s, _, _, lv, _, _, _ => by simp at lv
theorem Vals.rev {vs : List V} {us : List Value} (h : Vals vs us) : Vals vs.reverse us.reverse := by
  have app : ∀ {vs ws : List V} {us zs : List Value}, Vals vs us → Vals ws zs → Vals (vs ++ ws) (us ++ zs) := by
    intro vs ws us zs h k
    induction h with
    | nil => exact k
    | cons r _ ih => exact .cons r ih
  induction h with
  | nil => exact .nil
  | cons r _ ih =>
    rw [List.reverse_cons, List.reverse_cons]
    exact app ih (.cons r .nil)
theorem ps_parN {is : List Nat} {xs : List Str} {ts es : List Expr} {kt k2 : Nat} {pt pt2 pos : Pos} {ta : TA} (hc : X.calm = true) (hN : X.N.Nodup) (hl : is.length = xs.length) (hx : ∀ k : Nat, ∀ i x, is[k]? = some i → xs[k]? = some x → X.N[i]? = some x ∧ X.env.scope.names.lookup x = some .local)
    (hz : is.length ≤ sizeLine) (ha : PA X es ta) (hw : swappedStores [.Tuple ts kt pt] (.Tuple es k2 pt2) X.env = pure (some xs)) :
    PS X (.Assign [.Tuple ts kt pt] (.Tuple es k2 pt2) pos) (tParN is ta) := by
  refine ⟨fun pins s σ H D I h => ?_⟩
  rw [exec_Assign_arm]
  refine wpAny_bind (wpAny_standAt ?_)
  rw [show swapsWithSole [.Tuple ts kt pt] (.Tuple es k2 pt2) pos.line X.env = pure false from rfl]
  refine wpAny_bind (wpAny_pure ?_)
  rw [if_neg (by decide)]
  refine wpAny_bind (Tuple_ (thn (ha.run _ pins s σ H _ I h) fun us s1 ⟨vs, H1, I1, r1, lv, q1⟩ => ?_))
  have lu := r1.length
  refine wpAny_newObj_type ?_ (show us.length ≤ sizeLine by omega)
  have I2 : Inv X pins σ H1 { s1 with heap := s1.heap.push { cls := .type "tuple", data := .seq us.toArray } } := I1.kept (t' := s1.toks) fun b o e => Heap.get?_push_of_some _ e
  rw [hw]
  refine wpAny_bind (wpAny_pure ?_)
  show wpAny (model X.prog X.w) X.A (do rule "assign.swapped-stores"; let items ← unpackItems (.ref s1.heap.objs.size) xs.length none; assignInOrder (xs.reverse.map fun n => bindName X.env n) items.reverse; pure Flow.next) _ _ _
  have en : xs.length = us.toArray.size := by rw [List.size_toArray]; omega
  rw [en]
  refine wpAny_bind (wpAny_rule (wpAny_bind (unpackItems_tuple (items := us.toArray) (I.ok.hd hc) (IsTup.new s1.heap _) fun h' hx' => ?_)))
  have I3 := I2.kept (h' := h') (t' := s1.toks) fun b o e => hx' b o (Nat.ne_of_lt (Heap.lt_size e)) e
  refine wpAny_bind ?_
  have hrev : ∀ k : Nat, ∀ i x, is.reverse[k]? = some i → xs.reverse[k]? = some x → X.N[i]? = some x ∧ X.env.scope.names.lookup x = some .local := fun k i x h1 h2 => by
    have lk : k < is.length := by have := (List.getElem?_eq_some_iff.mp h1).1; simpa using this
    rw [List.getElem?_reverse (by omega)] at h1
    rw [List.getElem?_reverse (by omega)] at h2
    rw [← hl] at h2
    exact hx _ i x h1 h2
  have rr : Vals vs.reverse (us.toArray.toList.reverse) := Vals.rev r1
  refine stores hN (fun _ _ => trivial) is.reverse xs.reverse vs.reverse _ σ _ (by rw [List.length_reverse, List.length_reverse, hl]) hrev (by rw [List.length_reverse, List.length_reverse, lv]) rr I3 fun s' I' => ?_
  exact wpAny_pure ⟨_, H1, I', q1⟩
end
end Ev
set_option Elab.async false
set_option linter.all false
set_option autoImplicit false
set_option maxRecDepth 100000
set_option maxHeartbeats 1000000
namespace Ev
open PySem PySem.Spec PyProof.Rows L2
/-! ### the checker of statements -/
def swapC (sc : Scope) (x : Str) (p : Pos) (scope : Scope) (ep : Pos) : Bool := sc.names.lookup x == some .local && p.line == ep.line && !(scope.names.any fun (n, k) => n == x && (k == .local || k == .cell))
def sideA (sc : Scope) (tgE e : Expr) : Bool :=
  match tgE with
  | .Name x p => (match e with
    | .ListComp _ _ scope ep => !swapC sc x p scope ep
    | e => notComp e)
  | .Tuple ts _ _ => (match e with
    | .Tuple vs _ _ => decide (swp sc ts vs = some none)
    | e => notComp e)
  | _ => false
def sideB (sc : Scope) (tgE e : Expr) : Bool :=
  match tgE, e with
  | .Name x p, .ListComp _ _ scope ep => swapC sc x p scope ep
  | _, _ => false
def allE : Os → Bool
  | .nil => true
  | .e _ r => allE r
  | _ => false
def namesOf (cf : Cf) (is : List Nat) : List Str := is.map fun i => cf.N[i]?.getD ""
def parB (cf : Cf) (sc : Scope) (is : List Nat) (ts vs : List Expr) : Bool := decide (swp sc ts vs = some (some (namesOf cf is))) && (is.all (fun i => (cf.N[i]?).isSome && sc.names.lookup (cf.N[i]?.getD "") == some .local) && decide (is.length ≤ 100))
def notImm : T → Bool
  | .imm _ => false
  | .pure _ => false
  | _ => true
mutual
def chkS (cf : Cf) (sc : Scope) : S → Stmt → Bool
  | .asg tg t, .Assign [tgE] e _ => chkTg cf sc tg tgE && (chkE cf sc t e && (sideA sc tgE e || (sideB sc tgE e && notImm t)))
  | .par is os, .Assign [.Tuple ts _ _] (.Tuple vs _ _) _ => parB cf sc is ts vs && (allE os && chkOs cf sc os vs)
  | .setIdx i k t, .Assign [.Subscript (.Name x _) ke _] e _ => nameB cf sc i x && (notComp e && (notSlice ke && (chkE cf sc k ke && chkE cf sc t e)))
  | .insert i k t, .Expr (.Call (.Attribute (.Name x _) m apos) [ke, e] [] cpos) _ => decide (m = ("insert" : Str)) && (nameB cf sc i x && ((apos.endLine == cpos.line) && (notStar ke && (notStar e && (chkE cf sc k ke && chkE cf sc t e)))))
  | .append i t, .Expr (.Call (.Attribute (.Name x _) m apos) [e] [] cpos) _ => decide (m = ("append" : Str)) && (nameB cf sc i x && ((apos.endLine == cpos.line) && (notStar e && chkE cf sc t e)))
  | .setFld i f t, .Assign [.Attribute (.Name x _) n _] e _ => nameB cf sc i x && (decide (cf.fl f = some n) && (notComp e && chkE cf sc t e))
  | .ret t, .Return (some e) _ => chkE cf sc t e
  | .retV i, .Return (some (.Name x _)) _ => nameB cf sc i x
  | .retN, .Return none _ => true
  | .ife c a b, .If c' a' b' _ => chkB cf sc c c' && (chkSs cf sc a a' && chkSs cf sc b b')
  | .for_ tg it b, .For tg' iter body [] _ => notSet iter && (chkTg cf sc tg tg' && (chkIt cf sc it tg' iter && chkSs cf sc b body))
  | .whl c b, .While c' body [] _ => chkB cf sc c c' && chkSs cf sc b body
  | .ex t, .Expr e _ => notComp e && chkE cf sc t e
  | .pass, .Pass _ => true
  | .pass, .Expr (.Constant (.str _) _ _) _ => true
  | .brk, .Break _ => true
  | .cont, .Continue _ => true
  | .never, _ => true
  | _, _ => false
def chkSs (cf : Cf) (sc : Scope) : Ss → List Stmt → Bool
  | .nil, [] => true
  | .cons .never .nil, _ => true
  | .cons s r, st :: rest => chkS cf sc s st && chkSs cf sc r rest
  | _, _ => false
end
/-! ### the sides -/
theorem swaps_not {e : Expr} (h : notComp e = true) (t : Option Expr) (l : Nat) (env : Env) : swapsWith e t l env = pure false := by
  cases e <;> first
    | (cases h; done)
    | rfl
theorem swaps_name {elt : Expr} {gens : List Comprehension} {scope : Scope} {ep p : Pos} {x : Str} {l : Nat} {env : Env} {sc : Scope} (hs : env.scope = sc) (hk : sc.kind = .function) : swapsWith (.ListComp elt gens scope ep) (some (.Name x p)) l env = pure (swapC sc x p scope ep) := by
  have hb : env.blockKind = .function := by
    unfold Env.blockKind
    rw [hs, hk]
    rfl
  subst hs
  have e : swapsWith (.ListComp elt gens scope ep) (some (.Name x p)) l env = pure (env.blockKind == .function && env.kindOf x == some .local && p.line == ep.line && !(scope.names.any fun (n, k) => n == x && (k == .local || k == .cell))) := rfl
  rw [e, hb]
  rfl
theorem sideA_ok {sc : Scope} {tgE e : Expr} {env : Env} {l : Nat} (hs : env.scope = sc) (hk : sc.kind = .function) (h : sideA sc tgE e = true) :
    swapsWithSole [tgE] e l env = pure false ∧ swappedStores [tgE] e env = pure none ∧ (assignEach [tgE] env).map (·.2) = [assign tgE env] := by
  cases tgE with
  | Name x p =>
    refine ⟨?_, ?_, rfl⟩
    · show swapsWith e (some (.Name x p)) l env = pure false
      cases e with
      | ListComp elt gens scope ep =>
        rw [swaps_name hs hk]
        have h : (!swapC sc x p scope ep) = true := h
        rw [show swapC sc x p scope ep = false by simpa using h]
      | _ => refine swaps_not ?_ _ _ _; exact h
    · cases e <;> rfl
  | Tuple ts k p =>
    refine ⟨?_, ?_, rfl⟩
    · show swapsWith e (some (.Tuple ts k p)) l env = pure false
      cases e <;> rfl
    · cases e with
      | Tuple vs k2 p2 =>
        have h : decide (swp sc ts vs = some none) = true := h
        exact swp_eq (by simpa using h) hs hk
      | _ => rfl
  | _ => cases h
section
variable {C : Cn} {Θ : Th} {τ τ' : List V} {δ δ' : List Val} {K : Kont} {D : Ends}
theorem KOk.ext (k : KOk C Θ τ δ K D) (l2 : τ.length = δ.length) (τ' : List V) (δ' : List Val) : KOk C Θ (τ ++ τ') (δ ++ δ') K D where
  nx := fun ρ' σ' H' I' s p => k.nx ρ' σ' H' I' (s.popN l2) p
  bk := fun ρ' σ' H' I' s p => k.bk ρ' σ' H' I' (s.popN l2) p
  ct := fun ρ' σ' H' I' s p => k.ct ρ' σ' H' I' (s.popN l2) p
  rt := fun a ρ' σ' v H' I' ok s p => k.rt a ρ' σ' v H' I' ok (s.mid l2) p
  xx := fun σ' x ρ' cls d H' I' s r q => k.xx σ' x ρ' cls d H' I' (s.popN l2) r q
end
end Ev
set_option Elab.async false
set_option linter.all false
set_option autoImplicit false
set_option maxRecDepth 100000
set_option maxHeartbeats 1000000
namespace Ev
open PySem PySem.Spec PyProof.Rows L2
section
variable {cf : Cf} {C : Cn} {k : Nat} {X : Cx} {sc : Scope}
theorem loc_fn (xs : XS cf C k X) (hs : X.env.scope = sc) : LocOk X sc := by
  intro x h
  unfold locB at h
  cases q : sc.names.lookup x with
  | none => rw [q] at h; cases h
  | some kd =>
    rw [q] at h
    cases kd with
    | «local» => exact ⟨.inl (by rw [hs]; exact q), .inl (xs.fnT x)⟩
    | cell => exact ⟨.inr (by rw [hs]; exact q), .inl (xs.fnT x)⟩
    | _ => cases h
theorem asg_read {tg : Tg} {t : T} : ∀ D σ H, tS C (.asg tg t) D σ H → tAsg (tE C t) (tG C tg) D σ H := by
  intro D σ H ⟨Θ, I, τ, ρ, δ, K, s, w, kk⟩
  exact ⟨Θ, I, τ, ρ, δ, _, _, s, w, fun a ρ' v H' I' ok s' w' => ⟨Θ, I', τ, ρ', δ, a, _, s', w', fun ρ2 σ2 s2 _ p => kk.nx ρ2 σ2 H' I' s2 p⟩, kk.xx σ⟩
theorem gv_read {i : Nat} : ∀ v σ H Q, tG C (.v i) v σ H Q → gName i v σ H Q := by
  intro v σ H Q ⟨Θ, I, τ, ρ, δ, a, P, s, w, k⟩
  obtain ⟨hn, h'⟩ := asg_not (A := True) (B := P (ρ.put i (some a))) w
  exact k _ _ (s.asgX hn) (same_set (.refl [] _)) h'
theorem asg_sound (xs : XS cf C k X) (hs : X.env.scope = sc) {tg : Tg} {t : T} {tgE e : Expr} {pos : Pos} (h1 : chkTg cf sc tg tgE = true) (h2 : chkE cf sc t e = true) (h3 : (sideA sc tgE e || (sideB sc tgE e && notImm t)) = true) : PS X (.Assign [tgE] e pos) (tS C (.asg tg t)) := by
  have pe := (e_sound t cf C k X sc e xs.toXC hs h2).1
  have pg := pg_sound (C := C) (X := X) xs.N xs.nd xs.calm xs.K (loc_fn xs hs) h1
  have fk : sc.kind = .function := by rw [← hs]; exact xs.fk
  rw [Bool.or_eq_true] at h3
  rcases h3 with h3 | h3
  · obtain ⟨a, b, c⟩ := sideA_ok (l := pos.line) hs fk h3
    exact PS.imp (ps_asg pe pg a b c) asg_read
  · rw [Bool.and_eq_true] at h3
    obtain ⟨h3, hni⟩ := h3
    cases tgE with
    | Name x p =>
      cases e with
      | ListComp elt gens scope ep =>
        have hsw : swapC sc x p scope ep = true := h3
        cases t with
        | comp own tgc it c e0 =>
          match gens, h2 with
          | [⟨tg', iter, ifs, as⟩], h2 =>
            obtain ⟨h0, hh⟩ := and_t (show (decide (as = 0) && (blkB cf sc scope own && ((tgIx tgc).all (fun i => decide (i ∈ own)) && (notSet iter && (chkTg cf scope tgc tg' && (chkIt cf sc it tg' iter && (ifsOf (fun q => chkB cf (relS scope sc) c q) (isTT c) ifs && chkE cf (relS scope sc) e0 elt))))))) = true from h2)
            obtain ⟨g1, hh⟩ := and_t hh
            obtain ⟨g2, hh⟩ := and_t hh
            obtain ⟨g3, hh⟩ := and_t hh
            obtain ⟨g4, hh⟩ := and_t hh
            obtain ⟨g5, hh⟩ := and_t hh
            obtain ⟨g6, g7⟩ := and_t hh
            clear h2 pe
            have e0' : as = 0 := by simpa using h0
            subst e0'
            have hown : ∀ i ∈ tgIx tgc, i ∈ own := fun i hi => by simpa using List.all_eq_true.mp g2 i hi
            have sb : ∀ (cl : List (Str × Addr)) (Ca : Addr), (compEnvC scope cl Ca X.env).scope = relS scope sc := fun cl Ca => by rw [← hs]; rfl
            have key : ∃ tt : TT, (∀ σ H Q, tB C.quiet c σ H Q → tt σ H Q) ∧ ∀ (s : Shared) (H : Hp) (Ca : Addr) (cl : List (Str × Addr)) (fp : List Addr), PTs (X.blk s H scope (compEnvC scope cl Ca X.env) fp) ifs tt := by
              cases ifs with
              | nil =>
                refine ⟨tYes, ?_, fun s H Ca cl fp => pts_nil⟩
                intro σ H Q ⟨Θ, I, τ, ρ, δ, P, Xx, st, w, kk, x⟩
                have w : P true ρ := by
                  cases c with
                  | tt => exact w
                  | _ => cases g6
                exact kk true ρ H I st w
              | cons c' r =>
                cases r with
                | nil =>
                  have h6 : chkB cf (relS scope sc) c c' = true := g6
                  refine ⟨tB C.quiet c, fun _ _ _ q => q, fun s H Ca cl fp => pts_one (b_sound c cf C.quiet k _ (relS scope sc) c' (xc_blk xs.toXC s H scope _ fp) (sb cl Ca) h6).1⟩
                | cons _ _ => cases g6
            obtain ⟨tt, k1, k2⟩ := key
            have bo : BlkOk X.N X.env.scope scope (ownP cf own) := by rw [xs.N, hs]; exact blk_of g1
            cases tg with
            | v i =>
              obtain ⟨x', p', ex, hx, lx⟩ := loc_name (cf := cf) (sc := sc) (i := i) (e := .Name x p) h1
              cases ex
              have hl : X.env.scope.names.lookup x = some .local := by
                unfold swapC at hsw
                rw [Bool.and_eq_true, Bool.and_eq_true] at hsw
                rw [hs]
                have z := hsw.1.1
                cases q : sc.names.lookup x with
                | none => rw [q] at z; cases z
                | some kd => rw [q] at z; cases kd <;> first | rfl | (cases z; done)
              have pc := ps_setLc (X := X) (i := i) (y := x) (py := p) (spos := pos) (elt := elt) (tg := tg') (iter := iter) (ifs := ifs) (scope := scope) (own := ownP cf own) (pos := ep) (wi := tI C it) (g := tG C.quiet tgc) (tt := tt) (te := tE C.quiet e0) xs.calm (by rw [xs.N]; exact xs.nd) (by rw [xs.N]; exact hx) hl
                (by rw [swaps_name hs fk, hsw]) (i_sound it cf C k X sc tg' iter xs.toXC hs g5) bo
                (fun s H Ca cl fp => pg_sound (cf := cf) (C := C.quiet) (X := X.blk s H scope (compEnvC scope cl Ca X.env) fp) xs.N xs.nd xs.calm xs.K loc_blk g4) k2 (fun s H Ca cl fp => (e_sound e0 cf C.quiet k _ (relS scope sc) elt (xc_blk xs.toXC s H scope _ fp) (sb cl Ca) g7).1) (not_set g3)
              rw [own_ix] at pc
              refine PS.imp pc fun D σ H h => ?_
              have h1 := asg_read D σ H h
              refine comp_read hown k1 σ H _ ?_
              exact mono_tE C _ σ H _ _ (fun v H' q => gv_read v σ H' _ q) h1
            | vs is => cases h1
          | [], h2 => cases h2
          | ⟨_, _, _, _⟩ :: _ :: _, h2 => cases h2
        | op f os =>
          have h2 : (match opArgs cf sc f os (.ListComp elt gens scope ep) with | some es => chkOs cf sc os es | none => false) = true := h2
          cases h2
        | call g os =>
          have h2 : (match callArgs cf sc g (flags os) (.ListComp elt gens scope ep) with | some es => chkOs cf sc os es | none => false) = true := h2
          cases h2
        | imm t => cases hni
        | pure t => cases hni
        | _ => cases h2
      | _ => cases h3
    | _ => cases h3
theorem setIdx_sound (xs : XS cf C k X) (hs : X.env.scope = sc) {i : Nat} {kx t : T} {x : Str} {ke e : Expr} {p tp pos : Pos} (h1 : nameB cf sc i x = true) (h2 : notComp e = true) (h2' : notSlice ke = true) (h3 : chkE cf sc kx ke = true) (h4 : chkE cf sc t e = true) : PS X (.Assign [.Subscript (.Name x p) ke tp] e pos) (tS C (.setIdx i kx t)) := by
  have pe := (e_sound t cf C k X sc e xs.toXC hs h4).1
  have pk := (e_sound kx cf C k X sc ke xs.toXC hs h3).1
  have sw : swapsWithSole [.Subscript (.Name x p) ke tp] e pos.line X.env = pure false := by
    show swapsWith e (some (.Subscript (.Name x p) ke tp)) pos.line X.env = pure false
    exact swaps_not h2 _ _ _
  have sp : swappedStores [.Subscript (.Name x p) ke tp] e X.env = pure none := by cases e <;> rfl
  refine PS.imp (ps_asg pe (pg_sub (pe_nm xs.toXC hs h1) pk set_list (fun v => by cases ke <;> first | rfl | (cases h2'; done))) sw sp rfl) fun D σ H ⟨Θ, I, τ, ρ, δ, K, s, w, kk⟩ => ?_
  refine ⟨Θ, I, τ, ρ, δ, _, _, s, w, fun a ρ1 v H1 I1 ok1 s1 ⟨⟨b, hb⟩, w1⟩ => ?_, kk.xx σ⟩
  obtain ⟨o, ho, _⟩ := s1.slot hb
  obtain ⟨J1, up, s1', rv⟩ := s1.leakT
  refine ⟨o, ho, Θ, J1, τ ++ [v], ρ1, δ ++ [(leakF a.1, a.2)], _, _, s1', w1, fun j ρ2 jv H2 I2 ok2 s2 w2 => ?_, (kk.xx σ).pop _ _⟩
  cases q : ρ2.at i with
  | none => rw [q] at w2; exact w2.elim
  | some b2 =>
    obtain ⟨f, d⟩ := b2
    have w2 : (match ρ2.at i, j.2 with | some (f, .lst ds), .int n => ownF f = true ∧ ∃ m, ixN ds.length n = some m ∧ K.nx (ρ2.put i (some (f, .lst (ds.set m a.2)))) | _, _ => False) := w2
    rw [q] at w2
    cases d with
    | lst ds =>
      cases q2 : j.2 with
      | int n =>
        rw [q2] at w2
        obtain ⟨of, m, hm, hn⟩ := w2
        obtain ⟨u, hu, ru⟩ := s2.slot q
        rw [ho] at hu
        cases hu
        obtain ⟨pa, rfl, nI, vs, hvs, rl⟩ := (repV_own (a := (f, .lst ds)) of).mp ru
        have ej := s2.topI q2 fun _ z => z
        subst ej
        have s3 := s2.pop
        have rv2 : Rep C.N I2 H2 a.2 v := by
          have z := s3.top
          exact (repV_imm (a := (leakF a.1, a.2)) (leak_not ok1)).mp z
        have hm' : L2.ixN vs.length n = some m := by rw [rl.len]; exact hm
        refine ⟨pa, vs, n, m, rfl, rfl, hvs, hm', ?_⟩
        have keep : ∀ (p : Addr) (o : HO), I2 p → H2 p = some o → (upd H2 pa (.lst (vs.set m v))) p = some o := fun p o ip z => by
          rw [upd_ne (fun (e : p = pa) => nI (e ▸ ip))]
          exact z
        have c : OwnC C.N I2 (upd H2 pa (.lst (vs.set m v))) pa (.lst (ds.set m a.2)) := ⟨vs.set m v, upd_same, RepL.mono (fun _ z => z) keep _ _ (rl.set m rv2)⟩
        exact kk.nx _ _ _ _ (S0.pop (s3.writeN q of ho c)) hn
      | _ => rw [q2] at w2; exact w2.elim
    | _ => exact w2.elim
theorem insert_sound (xs : XS cf C k X) (hs : X.env.scope = sc) {i : Nat} {kx t : T} {x : Str} {ke e : Expr} {p apos cpos pos : Pos} (h1 : nameB cf sc i x = true) (hl : (apos.endLine == cpos.line) = true) (hst1 : notStar ke = true) (hst : notStar e = true) (h3 : chkE cf sc kx ke = true) (h4 : chkE cf sc t e = true) : PS X (.Expr (.Call (.Attribute (.Name x p) "insert" apos) [ke, e] [] cpos) pos) (tS C (.insert i kx t)) := by
  have pe := (e_sound t cf C k X sc e xs.toXC hs h4).1
  have pk := (e_sound kx cf C k X sc ke xs.toXC hs h3).1
  have s2e : starEach [e] X.env = (false, eval e X.env) :: starEach [] X.env := star_cons hst
  have s1e : starEach [ke, e] X.env = (false, eval ke X.env) :: starEach [e] X.env := star_cons hst1
  have pa : PA X [ke, e] (tCons (tE C kx) (tCons (tE C t) tNil)) := pa_cons pk (pa_cons pe pa_nil s2e) s1e
  have pb := pe_bm (X := X) (cpos := cpos) (apos := apos) (name := "insert") F.plainAttrs_list F.slot_list_insert F.type_list_insert mt_insert (pe_nm xs.toXC hs h1 (p := p)) pa (hbase := rfl) (hfew := by rw [s1e, s2e]; rfl) (hline := hl) (hs := s1e) (hplain := by rw [s2e]; rfl)
  refine PS.imp (ps_expr pb rfl) fun D σ H ⟨Θ, I, τ, ρ, δ, K, s, ⟨⟨f0, ds0, hi0⟩, w⟩, kk⟩ => ?_
  obtain ⟨o, ho, ro⟩ := s.slot hi0
  have ty : tyV X.K "list" o H := by
    obtain ⟨q, vs, rfl, hq, _⟩ := ro.peek
    exact .inl ⟨rfl, vs, .inl (.inl hq)⟩
  refine ⟨o, ho, ty, Θ, I, τ, ρ, δ, _, _, s, w, fun j ρ1 jv H1 I1 ok1 s1 w1 => ?_, kk.xx σ⟩
  obtain ⟨J1, up, s1', rj⟩ := s1.leakT
  refine ⟨Θ, J1, τ ++ [jv], ρ1, δ ++ [(leakF j.1, j.2)], _, _, s1', w1, fun a ρ2 v H2 I2 ok2 s2 w2 => ?_, (kk.xx σ).pop _ _⟩
  cases q : ρ2.at i with
  | none => rw [q] at w2; exact w2.elim
  | some b2 =>
    obtain ⟨f, d⟩ := b2
    have w2 : (match ρ2.at i, j.2 with | some (f, .lst ds), .int n => ownF f = true ∧ 0 ≤ n ∧ n < 2 ^ 62 ∧ ds.length < line ∧ K.nx (ρ2.put i (some (f, .lst (insI ds n a.2)))) | _, _ => False) := w2
    rw [q] at w2
    cases d with
    | lst ds =>
      cases q2 : j.2 with
      | int n =>
        rw [q2] at w2
        obtain ⟨of, n0, n1, hz, hn⟩ := w2
        have ej : jv = .int n := by rw [q2] at rj; exact rj
        subst ej
        obtain ⟨J2, up2, s2', rv⟩ := s2.leakT
        obtain ⟨u, hu, ru⟩ := s2'.slot q
        rw [ho] at hu
        cases hu
        obtain ⟨pa, rfl, nI, vs, hvs, rl⟩ := (repV_own (a := (f, .lst ds)) of).mp ru
        refine ⟨pa, vs, n, v, rfl, rfl, hvs, by have := rl.len; have := sizeLine_eq; simp only [line] at hz; omega, n0, by omega, ?_⟩
        have keep : ∀ (p : Addr) (o : HO), J2 p → H2 p = some o → (upd H2 pa (.lst (vs.take n.toNat ++ [v] ++ vs.drop n.toNat))) p = some o := fun p o ip z => by
          rw [upd_ne (fun (e : p = pa) => nI (e ▸ ip))]
          exact z
        have c : OwnC C.N J2 (upd H2 pa (.lst (vs.take n.toNat ++ [v] ++ vs.drop n.toNat))) pa (.lst (insI ds n a.2)) := ⟨_, upd_same, RepL.mono (fun _ z => z) keep _ _ (((rl.take n.toNat).app (show RepL C.N J2 H2 [a.2] [v] from ⟨v, [], rfl, rv, rfl⟩)).app (rl.drop n.toNat))⟩
        exact kk.nx _ _ _ _ (S0.pop (S0.pop (s2'.writeN q of ho c))) hn
      | _ => rw [q2] at w2; exact w2.elim
    | _ => exact w2.elim
theorem append_sound (xs : XS cf C k X) (hs : X.env.scope = sc) {i : Nat} {t : T} {x : Str} {e : Expr} {p apos cpos pos : Pos} (h1 : nameB cf sc i x = true) (hl : (apos.endLine == cpos.line) = true) (hst : notStar e = true) (h4 : chkE cf sc t e = true) : PS X (.Expr (.Call (.Attribute (.Name x p) "append" apos) [e] [] cpos) pos) (tS C (.append i t)) := by
  have pe := (e_sound t cf C k X sc e xs.toXC hs h4).1
  have s1e : starEach [e] X.env = (false, eval e X.env) :: starEach [] X.env := star_cons hst
  have pa : PA X [e] (tCons (tE C t) tNil) := pa_cons pe pa_nil s1e
  have pb := pe_bm (X := X) (cpos := cpos) (apos := apos) (name := "append") F.plainAttrs_list F.slot_list_append F.type_list_append mt_append (pe_nm xs.toXC hs h1 (p := p)) pa (hbase := rfl) (hfew := by rw [s1e]; rfl) (hline := hl) (hs := s1e) (hplain := rfl)
  refine PS.imp (ps_expr pb rfl) fun D σ H ⟨Θ, I, τ, ρ, δ, K, s, ⟨⟨f0, ds0, hi0⟩, w⟩, kk⟩ => ?_
  obtain ⟨o, ho, ro⟩ := s.slot hi0
  have ty : tyV X.K "list" o H := by
    obtain ⟨q, vs, rfl, hq, _⟩ := ro.peek
    exact .inl ⟨rfl, vs, .inl (.inl hq)⟩
  refine ⟨o, ho, ty, Θ, I, τ, ρ, δ, _, _, s, w, fun a ρ1 v H1 I1 ok1 s1 w1 => ?_, kk.xx σ⟩
  cases q : ρ1.at i with
  | none => rw [q] at w1; exact w1.elim
  | some b2 =>
    obtain ⟨f, d⟩ := b2
    rw [q] at w1
    cases d with
    | lst ds =>
      obtain ⟨of, hz, hn⟩ := w1
      obtain ⟨J1, up, s1', rv⟩ := s1.leakT
      obtain ⟨u, hu, ru⟩ := s1'.slot q
      rw [ho] at hu
      cases hu
      obtain ⟨pa, rfl, nI, vs, hvs, rl⟩ := (repV_own (a := (f, .lst ds)) of).mp ru
      refine ⟨pa, vs, v, rfl, rfl, hvs, by have := rl.len; have := sizeLine_eq; simp only [line] at hz; omega, ?_⟩
      have keep : ∀ (p : Addr) (o : HO), J1 p → H1 p = some o → (upd H1 pa (.lst (vs ++ [v]))) p = some o := fun p o ip z => by
        rw [upd_ne (fun (e : p = pa) => nI (e ▸ ip))]
        exact z
      have c : OwnC C.N J1 (upd H1 pa (.lst (vs ++ [v]))) pa (.lst (ds ++ [a.2])) := ⟨vs ++ [v], upd_same, RepL.mono (fun _ z => z) keep _ _ (rl.app ⟨v, [], rfl, rv, rfl⟩)⟩
      exact kk.nx _ _ _ _ (S0.pop (s1'.writeN q of ho c)) hn
    | _ => exact w1.elim
theorem setFld_sound (xs : XS cf C k X) (hs : X.env.scope = sc) {i f : Nat} {t : T} {x n : Str} {e : Expr} {p tp pos : Pos} (h1 : nameB cf sc i x = true) (h2 : cf.fl f = some n) (h3 : notComp e = true) (h4 : chkE cf sc t e = true) : PS X (.Assign [.Attribute (.Name x p) n tp] e pos) (tS C (.setFld i f t)) := by
  have pe := (e_sound t cf C k X sc e xs.toXC hs h4).1
  have F := xs.toXC.fld f n h2
  refine PS.imp (ps_fld (pe_nm xs.toXC hs h1 (p := p)) pe (swaps_not h3 _ _ _)) fun D σ H ⟨Θ, I, τ, ρ, δ, K, s, w, kk⟩ => ?_
  refine ⟨Θ, I, τ, ρ, δ, _, _, s, w, fun a ρ1 v H1 I1 ok1 s1 w1 => ?_, kk.xx σ⟩
  cases q : ρ1.at i with
  | none => rw [q] at w1; exact w1.elim
  | some b2 =>
    obtain ⟨fl, d⟩ := b2
    rw [q] at w1
    cases d with
    | obj c fs =>
      obtain ⟨of, hg, hz, hn⟩ := w1
      obtain ⟨J1, up, s1', rv⟩ := s1.leakT
      obtain ⟨u, hu, ru⟩ := s1'.slot q
      obtain ⟨pa, rfl, nI, ⟨okc, has⟩, dx, hh, hvs, rf⟩ := (repV_own (a := (fl, .obj c fs)) of).mp ru
      have hasf := xs.toXC.has c f hg
      obtain ⟨cl, na⟩ := F.obj c okc hasf
      have en := F.fld
      subst en
      have lf := repF_len rf
      refine ⟨.ref pa, hu, pa, C.N.cls c, dx, hh, rfl, hvs, by rw [xs.K]; exact cl, by rw [xs.K]; exact na, by omega, ?_⟩
      have keep : ∀ (p : Addr) (o : HO), J1 p → H1 p = some o → (upd H1 pa (.ins (C.N.cls c) dx (putF (C.N.fld f) v hh))) p = some o := fun p o ip z => by
        rw [upd_ne (fun (e : p = pa) => nI (e ▸ ip))]
        exact z
      have c2 : OwnC C.N J1 (upd H1 pa (.ins (C.N.cls c) dx (putF (C.N.fld f) v hh))) pa (.obj c (putFD f a.2 fs)) :=
        ⟨⟨okc, putFD_mem (c := fun j => C.N.has c j) hasf has⟩, dx, _, upd_same, RepF.mono (fun _ z => z) keep _ _ (repF_put F.inj rv rf)⟩
      exact kk.nx _ _ _ _ (S0.pop (s1'.writeN q of hu c2)) hn
    | _ => exact w1.elim
end
end Ev
set_option Elab.async false
set_option linter.all false
set_option autoImplicit false
set_option maxRecDepth 100000
set_option maxHeartbeats 1000000
namespace Ev
open PySem PySem.Spec PyProof.Rows L2
section
variable {cf : Cf} {C : Cn} {k : Nat} {X : Cx} {sc : Scope}
/-! ### several names at once -/
def tXs (C : Cn) (os : Os) : TA := fun σ H K => ∃ Θ I τ ρ δ P X, S0 C.N Θ I σ τ H ρ δ ∧ wpOs C.G os ρ P X ∧
  (∀ ρ' τ' δ' H' I', S0 C.N Θ I' σ (τ ++ τ') H' ρ' (δ ++ δ') → τ'.length = δ'.length → P (δ'.map Opd.x) ρ' → K τ' H') ∧ XOk C Θ σ τ δ X
theorem pa_xs (xc : XC cf C k X) (hs : X.env.scope = sc) : ∀ {os : Os} {es : List Expr}, allE os = true → chkOs cf sc os es = true → PA X es (tXs C os)
  | .nil, [], _, _ => PA.imp pa_nil fun σ H K ⟨Θ, I, τ, ρ, δ, P, Xx, s, w, kk, x⟩ => kk ρ [] [] H I (by simpa using s) rfl w
  | .e t r, e :: es, ha, h => by
    obtain ⟨h1, h⟩ := and_t (show (notStar e && (chkE cf sc t e && chkOs cf sc r es)) = true from h)
    obtain ⟨h2, h3⟩ := and_t h
    refine PA.imp (pa_cons (e_sound t cf C k X sc e xc hs h2).1 (pa_xs xc hs (os := r) ha h3) (star_cons h1)) fun σ H K ⟨Θ, I, τ, ρ, δ, P, Xx, s, w, kk, x⟩ => ?_
    refine ⟨Θ, I, τ, ρ, δ, _, Xx, s, w, fun a ρ' v H' I' ok s' w' => ?_, x⟩
    refine ⟨Θ, I', τ ++ [v], ρ', δ ++ [a], _, Xx, s', w', fun ρ2 τ' δ' H2 I2 s2 l p => ?_, x.pop v a⟩
    have e1 : τ ++ [v] ++ τ' = τ ++ (v :: τ') := by simp
    have e2 : δ ++ [a] ++ δ' = δ ++ (a :: δ') := by simp
    rw [e1, e2] at s2
    exact kk ρ2 (v :: τ') (a :: δ') H2 I2 s2 (by simp [l]) p
  | .nil, _ :: _, _, h => by cases h
  | .e _ _, [], _, h => by cases h
  | .v _ _, _, h, _ => by cases h
  | .n _ _, _, h, _ => by cases h
theorem putVals_ok {N : Nm} {Θ : Th} {I : Addr → Prop} {H : Hp} {τ : List V} {δ : List Val} {P : Rho → Prop} {Q : L2.St → Hp → Prop} : ∀ {js : List Nat} {δr : List Val} {τr : List V} {ρ : Rho} {σ : L2.St}, S0 N Θ I σ (τ ++ τr.reverse) H ρ (δ ++ δr.reverse) → τr.length = δr.length → putVals js (δr.map Opd.x) ρ P →
    (∀ ρ' σ', S0 N Θ I σ' τ H ρ' δ → P ρ' → Q σ' H) → τr.length = js.length ∧ Q (setL σ js τr) H
  | [], [], [], ρ, σ, s, _, h, k => ⟨rfl, k ρ σ (by simpa using s) h⟩
  | j :: js, a :: δr, v :: τr, ρ, σ, s, l, h, k => by
    obtain ⟨hn, h'⟩ := asg_not (A := True) (B := putVals js (δr.map Opd.x) (ρ.put j (some a)) P) h
    have s1 : S0 N Θ I σ ((τ ++ τr.reverse) ++ [v]) H ρ ((δ ++ δr.reverse) ++ [a]) := by simpa using s
    obtain ⟨l2, q⟩ := putVals_ok (s1.asgX hn) (by simpa using l) h' k
    exact ⟨by simp [l2], q⟩
  | [], _ :: _, _, ρ, σ, s, _, h, k => h.elim
  | _ :: _, [], _, ρ, σ, s, _, h, k => h.elim
  | [], [], _ :: _, ρ, σ, s, l, h, k => by simp at l
  | _ :: _, _ :: _, [], ρ, σ, s, l, h, k => by simp at l
theorem par_sound (xs : XS cf C k X) (hs : X.env.scope = sc) {is : List Nat} {os : Os} {ts vs : List Expr} {k1 k2 : Nat} {p1 p2 pos : Pos} (h1 : parB cf sc is ts vs = true) (h2 : allE os = true) (h3 : chkOs cf sc os vs = true) :
    PS X (.Assign [.Tuple ts k1 p1] (.Tuple vs k2 p2) pos) (tS C (.par is os)) := by
  have fk : sc.kind = .function := by rw [← hs]; exact xs.fk
  obtain ⟨a, b⟩ := and_t h1
  obtain ⟨b, c⟩ := and_t b
  have c : is.length ≤ 100 := by simpa using c
  refine PS.imp (ps_parN (is := is) (xs := namesOf cf is) xs.calm (by rw [xs.N]; exact xs.nd) (by simp [namesOf]) (fun n i x h1 h2 => ?_) (by have := sizeLine_eq; omega) (pa_xs xs.toXC hs h2 h3) (swp_eq (by simpa using a) hs fk)) fun D σ H ⟨Θ, I, τ, ρ, δ, K, s, w, kk⟩ => ?_
  · have mi := List.mem_of_getElem? h1
    obtain ⟨q1, q2⟩ := and_t (List.all_eq_true.mp b i mi)
    have ex : x = cf.N[i]?.getD "" := by
      unfold namesOf at h2
      rw [List.getElem?_map, h1] at h2
      exact (Option.some.inj h2).symm
    subst ex
    refine ⟨?_, ?_⟩
    · rw [xs.N]
      cases q : cf.N[i]? with
      | none => rw [q] at q1; cases q1
      | some y => rfl
    · rw [hs]
      cases q : sc.names.lookup (cf.N[i]?.getD "") with
      | none => rw [q] at q2; cases q2
      | some kd => rw [q] at q2; cases kd <;> first | rfl | (cases q2; done)
  · refine ⟨Θ, I, τ, ρ, δ, _, _, s, w, fun ρ' τ' δ' H' I' s' l p => ?_, kk.xx σ⟩
    have p : putVals is.reverse ((δ'.reverse).map Opd.x) ρ' K.nx := by
      rw [List.map_reverse]
      exact p
    obtain ⟨l2, q⟩ := putVals_ok (Q := D.nx) (τr := τ'.reverse) (δr := δ'.reverse) (by simpa using s') (by simp [l]) p fun ρ2 σ2 s2 p2 => kk.nx ρ2 σ2 _ _ s2 p2
    exact ⟨by simpa using l2, q⟩
theorem ret_read {t : T} : ∀ D σ H, tS C (.ret t) D σ H → tRet (tE C t) D σ H := by
  intro D σ H ⟨Θ, I, τ, ρ, δ, K, s, w, kk⟩
  exact ⟨Θ, I, τ, ρ, δ, _, _, s, w, fun a ρ' v H' I' ok s' p => kk.rt a ρ' σ v H' I' ok s' p, kk.xx σ⟩
theorem retV_read {i : Nat} : ∀ D σ H, tS C (.retV i) D σ H → tRet (tVar i) D σ H := by
  intro D σ H ⟨Θ, I, τ, ρ, δ, K, s, w, kk⟩
  cases q : ρ.at i with
  | none =>
    have w : (match ρ.at i with | some (.own, d) => K.rt (.own, d) (ρ.put i none) | some (.par, d) => K.rt (.imm, d) (ρ.put i (some (.parl, d))) | some (_, d) => K.rt (.imm, d) ρ | none => False) := w
    rw [q] at w
    exact w.elim
  | some a =>
    obtain ⟨f, d⟩ := a
    have w : (match ρ.at i with | some (.own, d) => K.rt (.own, d) (ρ.put i none) | some (.par, d) => K.rt (.imm, d) (ρ.put i (some (.parl, d))) | some (_, d) => K.rt (.imm, d) ρ | none => False) := w
    rw [q] at w
    cases f with
    | own =>
      obtain ⟨v, hv, _⟩ := s.slot q
      exact ⟨v, hv, kk.rt _ _ σ v H I (.inr rfl) (s.take q hv) w⟩
    | par =>
      obtain ⟨I', up, s', v, hv, r⟩ := s.leak q
      have e : ρ.leak i = ρ.put i (some (.parl, d)) := by
        unfold Rho.leak
        rw [q]
      rw [e] at s'
      exact ⟨v, hv, kk.rt _ _ σ v H I' (.inl rfl) (s'.step (.old r)) w⟩
    | imm =>
      obtain ⟨v, hv, r⟩ := s.slot q
      exact ⟨v, hv, kk.rt _ _ σ v H I (.inl rfl) (s.step (.old r)) w⟩
    | parl =>
      obtain ⟨v, hv, r⟩ := s.slot q
      exact ⟨v, hv, kk.rt _ _ σ v H I (.inl rfl) (s.step (.old r)) w⟩
theorem retN_read : ∀ D σ H, tS C .retN D σ H → tRetN D σ H := by
  intro D σ H ⟨Θ, I, τ, ρ, δ, K, s, w, kk⟩
  exact kk.rt _ _ σ .non H I (.inl rfl) (s.step (.old (d := .non) rfl)) w
theorem if_read {c : B} {a b : Ss} : ∀ D σ H, tS C (.ife c a b) D σ H → tIfS (tB C c) (tSs C a) (tSs C b) D σ H := by
  intro D σ H ⟨Θ, I, τ, ρ, δ, K, s, w, kk⟩
  refine ⟨Θ, I, τ, ρ, δ, _, _, s, w, fun kb ρ' H' I' s' z => ?_, kk.xx σ⟩
  cases kb with
  | true => exact ⟨Θ, I', τ, ρ', δ, K, s', z, kk⟩
  | false => exact ⟨Θ, I', τ, ρ', δ, K, s', z, kk⟩
theorem drop_read {t : T} : ∀ D σ H, tS C (.ex t) D σ H → tDrop (tE C t) D σ H := by
  intro D σ H ⟨Θ, I, τ, ρ, δ, K, s, w, kk⟩
  exact ⟨Θ, I, τ, ρ, δ, _, _, s, w, fun a ρ' v H' I' ok s' p => kk.nx ρ' σ H' I' s'.pop p, kk.xx σ⟩
theorem next_read : ∀ D σ H, tS C .pass D σ H → tNext D σ H := fun D σ H ⟨Θ, I, τ, ρ, δ, K, s, w, kk⟩ => kk.nx ρ σ H I s w
theorem brk_read : ∀ D σ H, tS C .brk D σ H → tBreak D σ H := fun D σ H ⟨Θ, I, τ, ρ, δ, K, s, w, kk⟩ => kk.bk ρ σ H I s w
theorem cont_read : ∀ D σ H, tS C .cont D σ H → tCont D σ H := fun D σ H ⟨Θ, I, τ, ρ, δ, K, s, w, kk⟩ => kk.ct ρ σ H I s w
theorem nil_read : ∀ D σ H, tSs C .nil D σ H → tNext D σ H := fun D σ H ⟨Θ, I, τ, ρ, δ, K, s, w, kk⟩ => kk.nx ρ σ H I s w
theorem seq_read {a : S} {r : Ss} : ∀ D σ H, tSs C (.cons a r) D σ H → tSeq (tS C a) (tSs C r) D σ H := by
  intro D σ H ⟨Θ, I, τ, ρ, δ, K, s, w, kk⟩
  exact ⟨Θ, I, τ, ρ, δ, _, s, w, ⟨fun ρ' σ' H' I' s' p => ⟨Θ, I', τ, ρ', δ, K, s', p, kk⟩, kk.bk, kk.ct, kk.rt, kk.xx⟩⟩
/-! ### loops -/
theorem for_read {tg : Tg} {it : It} {b : Ss} : ∀ D σ H, tS C (.for_ tg it b) D σ H → tFor (tI C it) (tG C tg) (tSs C b) D σ H := by
  intro D σ H ⟨Θ, I, τ, ρ, δ, K, s, w, kk⟩
  refine ⟨Θ, I, τ, ρ, δ, _, _, s, w, fun items ρ' τ' δ' srcs J H' I' s' src iok hf => ?_, kk.xx σ⟩
  have ke := kk.ext s.l2 τ' δ'
  let W : Nat → Nat → L2.St → Hp → Prop := fun i m σ2 H2 => m = items.length - i ∧ i ≤ items.length ∧ ∃ I2 ρ2, S0 C.N Θ I2 σ2 (τ ++ τ') H2 ρ2 (δ ++ δ') ∧
    forP (fun d ρ1 k => asgTg tg (.imm, d) ρ1 fun ρ2 => wpSs C.G b ρ2 ⟨k, K.rt, K.nx, k, K.xx⟩) K.nx (items.drop i) ρ2
  refine ⟨W, ⟨items.length, rfl, Nat.zero_le _, I', ρ', s', hf⟩, fun i m σ2 H2 hW => ?_⟩
  obtain ⟨hm, hi, I2, ρ2, s2, hfp⟩ := hW
  have reps := src.reps (τ' := []) (δ' := []) (by simpa using s2)
  obtain ⟨it1, it2⟩ := iok I2 H2 reps i
  by_cases hlt : i < items.length
  · right
    obtain ⟨go, yl⟩ := it1 items[i] (List.getElem?_eq_getElem hlt)
    rw [List.drop_eq_getElem_cons hlt] at hfp
    refine ⟨go, fun σ' H' => ∃ m', m' < m ∧ W (i + 1) m' σ' H', fun σ' H' z => z, fun xv H3 hy => ?_⟩
    obtain ⟨I3, st⟩ := yl xv H3 hy
    have s3 := s2.step st
    refine ⟨Θ, I3, _, ρ2, _, _, _, s3, hfp, fun ρ3 σ3 s4 sm hc => ?_⟩
    have again : ∀ ρ' σ' H' I', S0 C.N Θ I' σ' (τ ++ τ') H' ρ' (δ ++ δ') → forP (fun d ρ1 k => asgTg tg (.imm, d) ρ1 fun ρ2 => wpSs C.G b ρ2 ⟨k, K.rt, K.nx, k, K.xx⟩) K.nx (items.drop (i + 1)) ρ' → ∃ m', m' < m ∧ W (i + 1) m' σ' H' :=
      fun ρ' σ' H' I' s5 p => ⟨items.length - (i + 1), by omega, rfl, by omega, I', ρ', s5, p⟩
    exact ⟨Θ, I3, _, ρ3, _, _, s4, hc, ⟨again, fun ρ' σ' H' I' s5 p => ke.nx ρ' σ' H' I' s5 p, again, ke.rt, ke.xx⟩⟩
  · left
    have ei : items.length ≤ i := by omega
    rw [List.drop_eq_nil_of_le ei] at hfp
    exact ⟨it2 ei, ke.nx ρ2 σ2 H2 I2 s2 hfp⟩
theorem while_read {c : B} {b : Ss} : ∀ D σ H, tS C (.whl c b) D σ H → tWhile (tB C c) (tSs C b) D σ H := by
  intro D σ H ⟨Θ, I, τ, ρ, δ, K, s, ⟨W, ⟨m0, hm0⟩, hW⟩, kk⟩
  refine ⟨fun m σ2 H2 => ∃ I2 ρ2, S0 C.N Θ I2 σ2 τ H2 ρ2 δ ∧ W m ρ2, ⟨m0, I, ρ, s, hm0⟩, fun m σ2 H2 ⟨I2, ρ2, s2, h2⟩ => ?_⟩
  refine ⟨Θ, I2, τ, ρ2, δ, _, _, s2, hW m ρ2 h2, fun kb ρ3 H3 I3 s3 z => ?_, kk.xx σ2⟩
  cases kb with
  | false => exact kk.nx ρ3 σ2 H3 I3 s3 z
  | true =>
    have again : ∀ ρ' σ' H' I', S0 C.N Θ I' σ' τ H' ρ' δ → (∃ m', m' < m ∧ W m' ρ') → ∃ m', m' < m ∧ ∃ I2 ρ2, S0 C.N Θ I2 σ' τ H' ρ2 δ ∧ W m' ρ2 := fun ρ' σ' H' I' s5 ⟨m', l, p⟩ => ⟨m', l, I', ρ', s5, p⟩
    exact ⟨fun σ' H' => ∃ m', m' < m ∧ ∃ I2 ρ2, S0 C.N Θ I2 σ' τ H' ρ2 δ ∧ W m' ρ2, fun σ' H' z => z, Θ, I3, τ, ρ3, δ, _, s3, z, ⟨again, fun ρ' σ' H' I' s5 p => kk.nx ρ' σ' H' I' s5 p, again, kk.rt, kk.xx⟩⟩
end
end Ev
set_option Elab.async false
set_option linter.all false
set_option autoImplicit false
set_option maxRecDepth 100000
set_option maxHeartbeats 1000000
namespace Ev
open PySem PySem.Spec PyProof.Rows L2
abbrev SSnd (s : S) : Prop := ∀ (cf : Cf) (C : Cn) (k : Nat) (X : Cx) (sc : Scope) (st : Stmt), XS cf C k X → X.env.scope = sc → chkS cf sc s st = true → PS X st (tS C s)
abbrev SsSnd (s : Ss) : Prop := ∀ (cf : Cf) (C : Cn) (k : Nat) (X : Cx) (sc : Scope) (st : List Stmt), XS cf C k X → X.env.scope = sc → chkSs cf sc s st = true → PSs X st (tSs C s)
mutual
theorem s_sound : ∀ s : S, SSnd s
  | .asg tg t => fun cf C k X sc st xs hs h => by
    cases st with
    | Assign tgs e pos =>
      match tgs, h with
      | [tgE], h =>
        obtain ⟨h1, h⟩ := and_t (show (chkTg cf sc tg tgE && (chkE cf sc t e && (sideA sc tgE e || (sideB sc tgE e && notImm t)))) = true from h)
        obtain ⟨h2, h3⟩ := and_t h
        exact asg_sound xs hs h1 h2 h3
      | [], h => cases h
      | _ :: _ :: _, h => cases h
    | _ => cases h
  | .par is os => fun cf C k X sc st xs hs h => by
    cases st with
    | Assign tgs e pos =>
      cases tgs with
      | nil => cases h
      | cons tg r =>
        cases tg with
        | Tuple ts k1 p1 =>
          cases r with
          | nil =>
            cases e with
            | Tuple vs k2 p2 =>
              obtain ⟨h1, h⟩ := and_t (show (parB cf sc is ts vs && (allE os && chkOs cf sc os vs)) = true from h)
              obtain ⟨h2, h3⟩ := and_t h
              exact par_sound xs hs h1 h2 h3
            | _ => cases h
          | cons _ _ => cases h
        | _ => cases r <;> cases h
    | _ => cases h
  | .setIdx i kx t => fun cf C k X sc st xs hs h => by
    cases st with
    | Assign tgs e pos =>
      cases tgs with
      | nil => cases h
      | cons tg r =>
        cases tg with
        | Subscript o ke tp =>
          cases o with
          | Name x p =>
            cases r with
            | nil =>
              obtain ⟨h1, h⟩ := and_t (show (nameB cf sc i x && (notComp e && (notSlice ke && (chkE cf sc kx ke && chkE cf sc t e)))) = true from h)
              obtain ⟨h2, h⟩ := and_t h
              obtain ⟨h3, h⟩ := and_t h
              obtain ⟨h4, h5⟩ := and_t h
              exact setIdx_sound xs hs h1 h2 h3 h4 h5
            | cons _ _ => cases h
          | _ => cases r <;> cases h
        | _ => cases r <;> cases h
    | _ => cases h
  | .insert i kx t => fun cf C k X sc st xs hs h => by
    cases st with
    | Expr e pos =>
      cases e with
      | Call f es kws cpos =>
        cases f with
        | Attribute o m apos =>
          cases o with
          | Name x p =>
            cases es with
            | nil => cases h
            | cons ke r =>
              cases r with
              | nil => cases h
              | cons e r =>
                cases r with
                | nil =>
                  cases kws with
                  | nil =>
                    obtain ⟨h1, h⟩ := and_t (show (decide (m = ("insert" : Str)) && (nameB cf sc i x && ((apos.endLine == cpos.line) && (notStar ke && (notStar e && (chkE cf sc kx ke && chkE cf sc t e)))))) = true from h)
                    obtain ⟨h2, h⟩ := and_t h
                    obtain ⟨h3, h⟩ := and_t h
                    obtain ⟨h4, h⟩ := and_t h
                    obtain ⟨h5, h⟩ := and_t h
                    obtain ⟨h6, h7⟩ := and_t h
                    have em : m = ("insert" : Str) := by simpa using h1
                    subst em
                    exact insert_sound xs hs h2 h3 h4 h5 h6 h7
                  | cons _ _ => cases h
                | cons _ _ => cases h
          | _ => cases h
        | _ => cases h
      | _ => cases h
    | _ => cases h
  | .append i t => fun cf C k X sc st xs hs h => by
    cases st with
    | Expr e pos =>
      cases e with
      | Call f es kws cpos =>
        cases f with
        | Attribute o m apos =>
          cases o with
          | Name x p =>
            cases es with
            | nil => cases h
            | cons e r =>
              cases r with
              | nil =>
                cases kws with
                | nil =>
                  obtain ⟨h1, h⟩ := and_t (show (decide (m = ("append" : Str)) && (nameB cf sc i x && ((apos.endLine == cpos.line) && (notStar e && chkE cf sc t e)))) = true from h)
                  obtain ⟨h2, h⟩ := and_t h
                  obtain ⟨h3, h⟩ := and_t h
                  obtain ⟨h4, h5⟩ := and_t h
                  have em : m = ("append" : Str) := by simpa using h1
                  subst em
                  exact append_sound xs hs h2 h3 h4 h5
                | cons _ _ => cases h
              | cons _ _ => cases h
          | _ => cases h
        | _ => cases h
      | _ => cases h
    | _ => cases h
  | .setFld i f t => fun cf C k X sc st xs hs h => by
    cases st with
    | Assign tgs e pos =>
      cases tgs with
      | nil => cases h
      | cons tg r =>
        cases tg with
        | Attribute o n tp =>
          cases o with
          | Name x p =>
            cases r with
            | nil =>
              obtain ⟨h1, h⟩ := and_t (show (nameB cf sc i x && (decide (cf.fl f = some n) && (notComp e && chkE cf sc t e))) = true from h)
              obtain ⟨h2, h⟩ := and_t h
              obtain ⟨h3, h4⟩ := and_t h
              exact setFld_sound xs hs h1 (of_decide_eq_true h2) h3 h4
            | cons _ _ => cases h
          | _ => cases r <;> cases h
        | _ => cases r <;> cases h
    | _ => cases h
  | .ret t => fun cf C k X sc st xs hs h => by
    cases st with
    | Return v pos =>
      cases v with
      | none => cases h
      | some e => exact PS.imp (ps_ret (e_sound t cf C k X sc e xs.toXC hs h).1) ret_read
    | _ => cases h
  | .retV i => fun cf C k X sc st xs hs h => by
    cases st with
    | Return v pos =>
      cases v with
      | none => cases h
      | some e =>
        cases e with
        | Name x p => exact PS.imp (ps_ret (pe_nm xs.toXC hs h)) retV_read
        | _ => cases h
    | _ => cases h
  | .retN => fun cf C k X sc st xs hs h => by
    cases st with
    | Return v pos =>
      cases v with
      | none => exact PS.imp ps_retN retN_read
      | some e => cases h
    | _ => cases h
  | .ife c a b => fun cf C k X sc st xs hs h => by
    cases st with
    | If c' a' b' pos =>
      obtain ⟨h1, h⟩ := and_t (show (chkB cf sc c c' && (chkSs cf sc a a' && chkSs cf sc b b')) = true from h)
      obtain ⟨h2, h3⟩ := and_t h
      exact PS.imp (ps_if (b_sound c cf C k X sc c' xs.toXC hs h1).1 (ss_sound a cf C k X sc a' xs hs h2) (ss_sound b cf C k X sc b' xs hs h3)) if_read
    | _ => cases h
  | .for_ tg it b => fun cf C k X sc st xs hs h => by
    cases st with
    | For tg' iter body orelse pos =>
      cases orelse with
      | nil =>
        obtain ⟨h1, h⟩ := and_t (show (notSet iter && (chkTg cf sc tg tg' && (chkIt cf sc it tg' iter && chkSs cf sc b body))) = true from h)
        obtain ⟨h2, h⟩ := and_t h
        obtain ⟨h3, h4⟩ := and_t h
        exact PS.imp (ps_for xs.own xs.calm (i_sound it cf C k X sc tg' iter xs.toXC hs h3) (pg_sound (C := C) (X := X) xs.N xs.nd xs.calm xs.K (loc_fn xs hs) h2) (ss_sound b cf C k X sc body xs hs h4) (not_set h1)) for_read
      | cons _ _ => cases h
    | _ => cases h
  | .whl c b => fun cf C k X sc st xs hs h => by
    cases st with
    | While c' body orelse pos =>
      cases orelse with
      | nil =>
        obtain ⟨h1, h2⟩ := and_t (show (chkB cf sc c c' && chkSs cf sc b body) = true from h)
        exact PS.imp (ps_while xs.own (b_sound c cf C k X sc c' xs.toXC hs h1).1 (ss_sound b cf C k X sc body xs hs h2)) while_read
      | cons _ _ => cases h
    | _ => cases h
  | .ex t => fun cf C k X sc st xs hs h => by
    cases st with
    | Expr e pos =>
      obtain ⟨h1, h2⟩ := and_t (show (notComp e && chkE cf sc t e) = true from h)
      exact PS.imp (ps_expr (e_sound t cf C k X sc e xs.toXC hs h2).1 (swaps_not h1 _ _ _)) drop_read
    | _ => cases h
  | .pass => fun cf C k X sc st xs hs h => by
    cases st with
    | Pass pos => exact PS.imp ps_pass next_read
    | Expr e pos =>
      cases e with
      | Constant c j p =>
        cases c with
        | str x => exact PS.imp ps_doc next_read
        | _ => cases h
      | _ => cases h
    | _ => cases h
  | .brk => fun cf C k X sc st xs hs h => by
    cases st with
    | Break pos => exact PS.imp ps_break brk_read
    | _ => cases h
  | .cont => fun cf C k X sc st xs hs h => by
    cases st with
    | Continue pos => exact PS.imp ps_continue cont_read
    | _ => cases h
  | .never => fun cf C k X sc st xs hs h => PS.imp ps_never fun D σ H ⟨Θ, I, τ, ρ, δ, K, s, w, kk⟩ => w
theorem ss_sound : ∀ s : Ss, SsSnd s
  | .nil => fun cf C k X sc st xs hs h => by
    cases st with
    | nil => exact PSs.imp pss_nil nil_read
    | cons _ _ => cases h
  | .cons s r => fun cf C k X sc st xs hs h => by
    by_cases nv : s = .never ∧ r = .nil
    · obtain ⟨rfl, rfl⟩ := nv
      exact PSs.imp pss_never fun D σ H ⟨Θ, I, τ, ρ, δ, K, s, w, kk⟩ => w
    · cases st with
      | nil =>
        have h : chkSs cf sc (.cons s r) [] = true := h
        cases s <;> cases r <;> first | (cases h; done) | exact (nv ⟨rfl, rfl⟩).elim
      | cons st rest =>
        have h' : (chkS cf sc s st && chkSs cf sc r rest) = true := by
          cases s <;> first | exact h | (cases r <;> first | exact (nv ⟨rfl, rfl⟩).elim | exact h)
        obtain ⟨h1, h2⟩ := and_t h'
        exact PSs.imp (pss_cons (s_sound s cf C k X sc st xs hs h1) (ss_sound r cf C k X sc rest xs hs h2)) seq_read
end
end Ev
set_option Elab.async false
set_option linter.all false
set_option autoImplicit false
set_option maxRecDepth 100000
set_option maxHeartbeats 1000000
namespace Ev
open PySem PySem.Spec PyProof.Rows L2
/-! ### a def -/
/-- what stands at the module's top -/
structure SX (cf : Cf) (G : Glob) (N : Nm) (P : Program) (w : World) (K : PySem.W.Frag) (mg : Str → Option Value) (base : Heap) (k : Nat) : Prop where
  nd : cf.N.Nodup
  eK : K = N.K
  fns : ∀ h x n ks, cf.sh h = some (x, n, ks) → ∃ f, mg x = some (.ref f) ∧ PySem.W.keepIn K (.ref f) = true ∧ CallOk P w K mg base k f n ks (spOf N (G.fn h))
  cst : ∀ g x d, cf.cn g = some x → G.cst g = some d → ∃ u v, mg x = some u ∧ RelV v u ∧ ∀ I H, Rep N I H d v
  blt : ∀ x ∈ bltNames, mg x = none
  gcd : cf.gcd = true → mg "gcd" = some (.builtin "math.gcd")
  kitc : ∀ c, N.ok c → KitC K (N.cls c)
  kite : ∀ c an, N.xok c an → KitE K (N.cls c) an
  fld : ∀ i n, cf.fl i = some n → FldOk N i n
  has : ∀ c i, G.has c i = true → N.has c i
  wK : w = N.w
  ms : ∀ h m cs n ks, cf.ms h = some (m, cs, n, ks) → MsOk P w K mg base k N G h m cs n ks
  ok : ∀ h kd cs, cf.ok h = some (kd, cs) → OpsOk P w K mg base k N G h cs kd
  cls : ∀ c x, cf.cl c = some x → mg x = some (.ref (N.cls c)) ∧ KitT K (N.cls c) ∧ (∀ c', N.ok c' → PySem.W.kitOne K (.ref (N.cls c')) (.ref (N.cls c)) = some (c == c')) ∧
    ∀ c' an, N.xok c' an → PySem.W.kitOne K (.ref (N.cls c')) (.ref (N.cls c)) = some (an.contains c)
section
variable {cf : Cf} {G : Glob} {N : Nm} {P : Program} {w : World} {K : PySem.W.Frag} {mg : Str → Option Value} {base : Heap} {k : Nat}
theorem xs_of (sx : SX cf G N P w K mg base k) {qual : Str} {scope : Scope} {f : Addr} {cd : Value} {A : Around} {outer : List Env} {s : Shared} {H : Hp} {E : XK} (hk : scope.kind = .function) (hr : Room k (A.deeper (envOfC qual scope s.heap.objs.size f cd))) :
    XS cf ⟨G, N, fun cls d _ H => E cls d H⟩ k (cxOf (L2.CX P w) P w K mg base cf.N qual scope f cd A outer s H E) where
  N := rfl
  nd := sx.nd
  calm := rfl
  K := sx.eK
  room := hr
  tk := takes_of rfl rfl rfl rfl
  fns := sx.fns
  cst := sx.cst
  blt := sx.blt
  gcd := sx.gcd
  kitc := sx.kitc
  kite := sx.kite
  fld := sx.fld
  has := sx.has
  wK := sx.wK
  ms := sx.ms
  ok := sx.ok
  cls := sx.cls
  own := passes_of rfl
  fnT := fun _ => rfl
  fk := hk
theorem fn_sound {x qual : Str} {params : Arguments} {stmts : List Stmt} {scope : Scope} {dvs : List V} {kws : List (Str × V)} {f : Addr} {fd : FuncData} {ps : List Str} {body : Ss} {nl : Nat} {T : Tr} (sx : SX cf G N P w K mg base k) (F : FunD K x qual params stmts scope dvs kws f fd) (Sc : FnScope cf.N ps scope)
    (hb : chkSs cf scope body stmts = true) (hl : ps.length + nl = cf.N.length) (hT : ∀ as Q X, T as Q X → runF G ps.length nl body as Q X) : FnOk P w K mg base (L2.CX P w) (k + 1) f fd ps (spOf N T) := by
  refine F.ok Sc (fun vs H Q E ⟨I, as, Q0, X0, r, lv, ok, ht, _, _⟩ => lv.trans (hT as Q0 X0 ht).1) fun cdv A outer s H vs Q E hr ⟨I, as, Q0, X0, r, lv, ok, ht, kq, kx⟩ => ?_
  obtain ⟨la, hw⟩ := hT as Q0 X0 ht
  refine ⟨_, ss_sound body cf ⟨G, N, fun cls d _ H => E cls d H⟩ k _ scope stmts (xs_of sx Sc.kind hr) rfl hb, thOf H I as vs, I, [], _, [], _, ?_, hw, ?_⟩
  · have es : L2.start cf.N vs = vs.map some ++ List.replicate nl none := by
      unfold L2.start
      have : cf.N.length - vs.length = nl := by omega
      rw [this]
    rw [es]
    refine ⟨?_, by simp [lv], rfl, ?_⟩
    · rw [List.map_nil, List.append_nil, List.map_nil, List.append_nil]
      have key : ∀ (j : Nat) (a : Val), (as.map some ++ List.replicate nl none)[j]? = some (some a) → j < as.length := fun j a h => by
        by_cases c : j < as.length
        · exact c
        · rw [List.getElem?_append_right (by simp; omega), List.getElem?_replicate] at h
          split at h <;> cases h
      refine R.map r (fun j => j) (fun j a h => ?_) (fun i j a b _ _ e => e) fun j p hp => ?_
      · have l := key j a h
        rw [app_get (by simpa using l)] at h
        exact ⟨h, app_get (by simp; omega)⟩
      · have l : j < as.length := by
          have h := (List.getElem?_eq_some_iff.mp hp).1
          have h : j < (psOf as vs).length := h
          rw [ps_len lv] at h
          exact h
        exact ⟨app_get (by simpa using l), app_get (by simp; omega)⟩
    · show (psOf as vs).length ≤ _
      rw [ps_len lv]
      simp
  · have lps : ∀ {I' : Addr → Prop} {σ' : L2.St} {τ' : List V} {H' : Hp} {ρ' : Rho} {δ' : List Val}, S0 N (thOf H I as vs) I' σ' τ' H' ρ' δ' → as.length ≤ ρ'.length := fun s => by
      have h : (psOf as vs).length ≤ _ := s.lp
      rw [ps_len lv] at h
      exact h
    refine ⟨fun ρ' σ' H' I' s' ⟨os, ho, hq⟩ => ?_, fun _ _ _ _ _ z => z.elim, fun _ _ _ _ _ z => z.elim, fun a ρ' σ' v H' I' oka s' ⟨os, ho, hq⟩ => ?_, fun σ' x ρ' cls d H' I' s' rx ⟨os, ho, hq⟩ => ?_⟩
    · have s2 : S0 N (thOf H I as vs) I' σ' ([] ++ [V.non]) H' ρ' ([] ++ [(Fl.imm, D.non)]) := s'.step (.old (d := .non) rfl)
      exact kq _ os hq .non H' I' σ' ρ' (.inl rfl) s2.r s2.l1 (lps s') ho
    · exact kq a os hq v H' I' σ' ρ' oka s'.r s'.l1 (lps s') ho
    · have r' := s'.r
      rw [List.map_nil, List.append_nil, List.map_nil, List.append_nil] at r'
      exact kx x os hq cls d H' I' σ' ρ' r' s'.l1 (lps s') ho rx
end
end Ev
set_option Elab.async false
set_option linter.all false
set_option autoImplicit false
set_option maxRecDepth 100000
set_option maxHeartbeats 1000000
namespace Ev
open PySem PySem.Spec PyProof.Rows L2
/-! ### the forms of a call -/
section
variable {P : Program} {w : World} {K : PySem.W.Frag} {mg : Str → Option Value} {base : Heap} {k n : Nat} {f : Addr} {fd : FuncData} {ps ks : List Str} {sp sp0 : Sp} {g : List Value → List Value → List Value} {gV : List V → List V → List V}
theorem call_of (F : FnOk P w K mg base (L2.CX P w) k f fd ps sp0) (hb : KBn K fd ps n ks g gV) (hsp : ∀ vs zs H Q E, vs.length = n → zs.length = ks.length → sp (vs ++ zs) H Q E → sp0 (gV vs zs) H Q E) : CallOk P w K mg base k f n ks sp := by
  intro A outer s H us ws vs zs Q E hr e0 r rz l1 l2 h
  have KX : K.In s.heap := e0.mod.kin.keeps fun b o e => (e0.bs b o e).1
  exact F.run A outer s H ⟨us, ks.zip ws⟩ (g us ws) (gV vs zs) Q E hr e0 (hb.to s us ws KX l1 l2) (hb.rel r rz) (hsp vs zs H Q E (r.length.trans l1) (rz.length.trans l2) h)
/-- every parameter by place -/
theorem kbn_all (hb : Binds K fd ps []) : KBn K fd ps ps.length [] (fun us _ => us) (fun vs _ => vs) :=
  ⟨fun s us ws X l1 l2 => by
    have z := hb s us X (by rw [List.append_nil]; exact l1)
    rw [List.append_nil] at z
    have e : ([] : List Str).zip ws = [] := rfl
    rw [e]
    exact z, fun r _ => r⟩
theorem call_all (F : FnOk P w K mg base (L2.CX P w) k f fd ps sp) (hb : Binds K fd ps []) : CallOk P w K mg base k f ps.length [] sp := by
  refine call_of F (kbn_all hb) fun vs zs H Q E l1 l2 h => ?_
  have e : zs = [] := List.eq_nil_of_length_eq_zero l2
  subst e
  rw [List.append_nil] at h
  exact h
end
/-- in the parameters' order: .inl i the i-th that is written, .inr j the j-th default -/
def arr {α : Type} : List (Nat ⊕ Nat) → List α → List α → Option (List α)
  | [], _, _ => some []
  | .inl i :: r, xs, ds => (match xs[i]?, arr r xs ds with
    | some x, some l => some (x :: l)
    | _, _ => none)
  | .inr i :: r, xs, ds => (match ds[i]?, arr r xs ds with
    | some x, some l => some (x :: l)
    | _, _ => none)
/-- a call in another order, with defaults: nothing that is handed in is changed -/
def arrT (ix : List (Nat ⊕ Nat)) (ds : List D) (T : Tr) : Tr := fun as Q X => (∀ a ∈ as, a.1 = .imm) ∧ ∃ bs, arr ix as (ds.map fun d => ((.imm, d) : Val)) = some bs ∧ T bs (fun r _ => Q r as) (fun x _ => X x as)
section
variable {N : Nm} {H : Hp} {I I' : Addr → Prop} {as bs : List Val} {us vs : List V}
theorem ps_imm : ∀ {as : List Val} {vs : List V}, (∀ a ∈ as, a.1 = .imm) → ∀ p, some p ∉ psOf as vs
  | [], vs, _, p => by simp [psOf]
  | a :: as, [], h, p => by
    obtain ⟨f, d⟩ := a
    cases f <;> simp [psOf]
  | (f, d) :: as, v :: vs, h, p => by
    have e : f = .imm := h (f, d) (List.mem_cons_self ..)
    subst e
    have ih := ps_imm (as := as) (vs := vs) (fun a ha => h a (List.mem_cons_of_mem _ ha)) p
    show some p ∉ none :: psOf as vs
    simp [ih]
theorem outs_all : ∀ {as : List Val} {e : Rho}, (∀ a ∈ as, a.1 = .imm) → as.length ≤ e.length → outsOf as e = some as
  | [], e, _, _ => rfl
  | (f, d) :: as, [], h, l => by simp at l
  | (f, d) :: as, x :: e, h, l => by
    have ef : f = .imm := h (f, d) (List.mem_cons_self ..)
    subst ef
    have ih := outs_all (as := as) (e := e) (fun a ha => h a (List.mem_cons_of_mem _ ha)) (by simpa using l)
    show (outsOf as e).map ((.imm, d) :: ·) = _
    rw [ih]
    rfl
/-- the callee's beginning, when nothing that is handed in may change -/
theorem R.imm (hi : ∀ p, I p → ∃ o, H p = some o) (ha : ∀ a ∈ bs, a.1 = .imm) (hr : ∀ (j : Nat) (b : Val), bs[j]? = some b → ∃ v, us[j]? = some v ∧ Rep N I H b.2 v) : R N (thOf H I bs us) I (us.map some) H (bs.map some) := by
  have im : ∀ (j : Nat) (b : Val), (bs.map some)[j]? = some (some b) → bs[j]? = some b ∧ ownF b.1 = false := fun j b h => by
    rw [List.getElem?_map] at h
    cases q : bs[j]? with
    | none => rw [q] at h; cases h
    | some c =>
      rw [q] at h
      cases h
      refine ⟨rfl, ?_⟩
      rw [ha b (List.mem_of_getElem? q)]
      rfl
  refine ⟨fun j b h => ?_, fun i j p a b h1 h2 o1 o2 _ _ => ?_, fun p o z _ => z, fun p o z => ⟨o, z⟩, fun p z => z, fun p z => .inl z, hi, fun i a p q o _ => ?_, fun i p q => ?_⟩
  · obtain ⟨h1, h2⟩ := im j b h
    obtain ⟨v, hv, r⟩ := hr j b h1
    exact ⟨v, by rw [List.getElem?_map, hv]; rfl, (repV_imm h2).mpr r⟩
  · rw [(im i a h1).2] at o1; cases o1
  · rw [(im i a q).2] at o; cases o
  · exact (ps_imm ha p (List.mem_of_getElem? q)).elim
/-- the end, told to the caller -/
theorem R.immBack {w : List (Option V)} {e : Rho} {H' : Hp} {v : V} {r : Val} (ha : ∀ a ∈ as, a.1 = .imm) (hb : ∀ a ∈ bs, a.1 = .imm) (hl : w.length = e.length) (rc : R N (thOf H I bs us) I' (w ++ [some v]) H' (e ++ [some r])) :
    R N (thOf H I as vs) I' (List.replicate as.length none ++ [some v]) H' (List.replicate as.length none ++ [some r]) := by
  have at_ : ∀ (j : Nat) (a : Val), (List.replicate as.length none ++ [some r])[j]? = some (some a) → j = as.length ∧ a = r := fun j a h => by
    by_cases c : j < as.length
    · rw [app_get (by simpa using c), List.getElem?_replicate, if_pos c] at h
      cases h
    · rw [List.getElem?_append_right (by simp; omega), List.length_replicate] at h
      have e0 : j - as.length = 0 := by
        have := (List.getElem?_eq_some_iff.mp h).1
        simp at this
        omega
      rw [e0] at h
      have h : some (some r) = some (some a) := h
      cases h
      exact ⟨by omega, rfl⟩
  have le : (e ++ [some r])[e.length]? = some (some r) := by simp
  have lw : (w ++ [some v])[e.length]? = some (some v) := by rw [← hl]; simp
  have lv : (List.replicate as.length (none : Option V) ++ [some v])[as.length]? = some (some v) := by
    rw [List.getElem?_append_right (by simp)]
    simp
  refine ⟨fun j a h => ?_, fun i j p a b h1 h2 _ _ _ _ => ?_, fun p o z n => ?_, rc.dom, rc.inc, fun p z => ?_, rc.there, fun j a p h o hw => ?_, fun i p q => ?_⟩
  · obtain ⟨rfl, rfl⟩ := at_ j a h
    obtain ⟨u, hu, ru⟩ := rc.rep _ _ le
    rw [lw] at hu
    cases hu
    exact ⟨_, lv, ru⟩
  · rw [(at_ i a h1).1, (at_ j b h2).1]
  · exact rc.keep p o z fun hp => ps_imm hb p hp
  · rcases rc.bnd p z with z | z | z
    · exact .inl z
    · exact (ps_imm hb p z).elim
    · exact .inr (.inr z)
  · obtain ⟨rfl, rfl⟩ := at_ j a h
    rw [lv] at hw
    rcases rc.wr _ _ p le o (by rw [lw]; exact hw) with z | z
    · exact (ps_imm hb p z).elim
    · exact .inr z
  · exact (ps_imm ha p (List.mem_of_getElem? q)).elim
end
end Ev
set_option Elab.async false
set_option linter.all false
set_option autoImplicit false
set_option maxRecDepth 100000
set_option maxHeartbeats 1000000
namespace Ev
open PySem PySem.Spec PyProof.Rows L2
theorem arr_inl {α : Type} {i : Nat} {r : List (Nat ⊕ Nat)} {xs ds bs : List α} (h : arr (.inl i :: r) xs ds = some bs) : ∃ x l, xs[i]? = some x ∧ arr r xs ds = some l ∧ bs = x :: l := by
  have h : (match xs[i]?, arr r xs ds with | some x, some l => some (x :: l) | _, _ => none) = some bs := h
  cases q : xs[i]? with
  | none => rw [q] at h; cases h
  | some x =>
    cases q2 : arr r xs ds with
    | none => rw [q, q2] at h; cases h
    | some l => rw [q, q2] at h; cases h; exact ⟨x, l, rfl, rfl, rfl⟩
theorem arr_inr {α : Type} {i : Nat} {r : List (Nat ⊕ Nat)} {xs ds bs : List α} (h : arr (.inr i :: r) xs ds = some bs) : ∃ x l, ds[i]? = some x ∧ arr r xs ds = some l ∧ bs = x :: l := by
  have h : (match ds[i]?, arr r xs ds with | some x, some l => some (x :: l) | _, _ => none) = some bs := h
  cases q : ds[i]? with
  | none => rw [q] at h; cases h
  | some x =>
    cases q2 : arr r xs ds with
    | none => rw [q, q2] at h; cases h
    | some l => rw [q, q2] at h; cases h; exact ⟨x, l, rfl, rfl, rfl⟩
/-- two lists arranged alike -/
theorem arr_two {α β : Type} {F : α → β → Prop} : ∀ {ix : List (Nat ⊕ Nat)} {xs ds bs : List α} {ys es cs : List β}, (∀ (i : Nat) (x : α), xs[i]? = some x → ∃ y, ys[i]? = some y ∧ F x y) → (∀ (i : Nat) (x : α), ds[i]? = some x → ∃ y, es[i]? = some y ∧ F x y) → arr ix xs ds = some bs → arr ix ys es = some cs →
    cs.length = bs.length ∧ ∀ (j : Nat) (b : α), bs[j]? = some b → ∃ c, cs[j]? = some c ∧ F b c
  | [], xs, ds, bs, ys, es, cs, _, _, h1, h2 => by
    have h1 : some [] = some bs := h1
    have h2 : some [] = some cs := h2
    cases h1
    cases h2
    exact ⟨rfl, fun j b h => by simp at h⟩
  | .inl i :: r, xs, ds, bs, ys, es, cs, hx, hd, h1, h2 => by
    obtain ⟨x, l, a1, a2, rfl⟩ := arr_inl h1
    obtain ⟨y, m, b1, b2, rfl⟩ := arr_inl h2
    obtain ⟨c1, c2⟩ := arr_two hx hd a2 b2
    refine ⟨by simp [c1], fun j b h => ?_⟩
    cases j with
    | zero =>
      cases h
      obtain ⟨y', e1, e2⟩ := hx i _ a1
      rw [b1] at e1
      cases e1
      exact ⟨_, rfl, e2⟩
    | succ j => exact c2 j b h
  | .inr i :: r, xs, ds, bs, ys, es, cs, hx, hd, h1, h2 => by
    obtain ⟨x, l, a1, a2, rfl⟩ := arr_inr h1
    obtain ⟨y, m, b1, b2, rfl⟩ := arr_inr h2
    obtain ⟨c1, c2⟩ := arr_two hx hd a2 b2
    refine ⟨by simp [c1], fun j b h => ?_⟩
    cases j with
    | zero =>
      cases h
      obtain ⟨y', e1, e2⟩ := hd i _ a1
      rw [b1] at e1
      cases e1
      exact ⟨_, rfl, e2⟩
    | succ j => exact c2 j b h
theorem arr_mem {α : Type} {p : α → Prop} : ∀ {ix : List (Nat ⊕ Nat)} {xs ds bs : List α}, (∀ x ∈ xs, p x) → (∀ x ∈ ds, p x) → arr ix xs ds = some bs → ∀ b ∈ bs, p b
  | [], xs, ds, bs, _, _, h, b, hb => by
    have h : some [] = some bs := h
    cases h
    cases hb
  | .inl i :: r, xs, ds, bs, hx, hd, h, b, hb => by
    obtain ⟨x, l, a1, a2, rfl⟩ := arr_inl h
    rcases List.mem_cons.mp hb with e | hb
    · rw [e]; exact hx x (List.mem_of_getElem? a1)
    · exact arr_mem hx hd a2 b hb
  | .inr i :: r, xs, ds, bs, hx, hd, h, b, hb => by
    obtain ⟨x, l, a1, a2, rfl⟩ := arr_inr h
    rcases List.mem_cons.mp hb with e | hb
    · rw [e]; exact hd x (List.mem_of_getElem? a1)
    · exact arr_mem hx hd a2 b hb
theorem sp_arr {N : Nm} {ix : List (Nat ⊕ Nat)} {ds : List D} {T : Tr} {us us' dvs : List V} {H : Hp} {Q : VK} {E : XK} (h : spOf N (arrT ix ds T) us H Q E) (ha : arr ix us dvs = some us') (hd : ∀ (j : Nat) (d : D), ds[j]? = some d → ∃ v, dvs[j]? = some v ∧ ∀ I H, Rep N I H d v) : spOf N T us' H Q E := by
  obtain ⟨I, as, Q0, X0, r, lv, ok, ⟨him, bs, hbs, ht⟩, kq, kx⟩ := h
  have xs : ∀ (i : Nat) (a : Val), as[i]? = some a → ∃ v, us[i]? = some v ∧ Rep N I H a.2 v := fun i a e => by
    obtain ⟨v, hv, rv⟩ := r.rep i a (by rw [List.getElem?_map, e]; rfl)
    rw [List.getElem?_map] at hv
    cases q : us[i]? with
    | none => rw [q] at hv; cases hv
    | some u =>
      rw [q] at hv
      cases hv
      exact ⟨_, rfl, (repV_imm (by rw [him a (List.mem_of_getElem? e)]; rfl)).mp rv⟩
  have dx : ∀ (i : Nat) (a : Val), (ds.map fun d => ((.imm, d) : Val))[i]? = some a → ∃ v, dvs[i]? = some v ∧ Rep N I H a.2 v := fun i a e => by
    rw [List.getElem?_map] at e
    cases q : ds[i]? with
    | none => rw [q] at e; cases e
    | some d =>
      rw [q] at e
      cases e
      obtain ⟨v, hv, rv⟩ := hd i d q
      exact ⟨v, hv, rv I H⟩
  obtain ⟨l, rr⟩ := arr_two (F := fun a v => Rep N I H a.2 v) xs dx hbs ha
  have bim : ∀ b ∈ bs, b.1 = .imm := arr_mem (p := fun b : Val => b.1 = .imm) him (fun x hx => by obtain ⟨d, _, rfl⟩ := List.mem_map.mp hx; rfl) hbs
  refine ⟨I, bs, _, _, R.imm r.there bim rr, l, fun a ma => .inl (bim a ma), ht, fun y outs q v H' I' w e oky rc hl hl2 ho => ?_, fun y outs q cls d H' I' w e rc hl hl2 ho rx => ?_⟩
  · exact kq y as q v H' I' _ _ oky (R.immBack him bim hl rc) (by simp) (by simp) (outs_all him (by simp))
  · have rc' := R.immBack (vs := us) (v := V.non) (r := (.imm, .non)) him bim hl (rc.push hl rfl (show Rep N I' H' .non .non from rfl))
    have rc0 := rc'.pop (by simp) (by rw [show (thOf H I as us).ps = psOf as us from rfl, ps_len lv]; simp)
    exact kx y as q cls d H' I' _ _ rc0 (by simp) (by simp) (outs_all him (by simp)) rx
/-! ### how the words of a call are bound -/
section
variable {K : PySem.W.Frag} {x qual : Str} {params : Arguments} {body : List Stmt} {scope : Scope} {dvs : List V} {kws : List (Str × V)} {f : Addr} {fd : FuncData} {ps ks : List Str} {n : Nat} {ix : List (Nat ⊕ Nat)}
theorem vals_at {vs : List V} {us : List Value} (h : Vals vs us) : ∀ (i : Nat) (v : V), vs[i]? = some v → ∃ u, us[i]? = some u ∧ RelV v u := fun i v e => h.get e
theorem vals_of : ∀ {vs : List V} {us : List Value}, us.length = vs.length → (∀ (i : Nat) (v : V), vs[i]? = some v → ∃ u, us[i]? = some u ∧ RelV v u) → Vals vs us
  | [], [], _, _ => .nil
  | v :: vs, u :: us, l, h => by
    obtain ⟨u', e, r⟩ := h 0 v rfl
    cases e
    exact .cons r (vals_of (by simpa using l) fun i v e => h (i + 1) v e)
  | [], _ :: _, l, _ => by simp at l
  | _ :: _, [], l, _ => by simp at l
theorem arr_same {α β : Type} {F : α → β → Prop} : ∀ {ix : List (Nat ⊕ Nat)} {xs ds : List α} {ys es : List β}, (∀ (i : Nat) (x : α), xs[i]? = some x → ∃ y, ys[i]? = some y ∧ F x y) → xs.length = ys.length → (∀ (i : Nat) (x : α), ds[i]? = some x → ∃ y, es[i]? = some y ∧ F x y) → ds.length = es.length → (arr ix xs ds = none ↔ arr ix ys es = none)
  | [], xs, ds, ys, es, _, _, _, _ => by simp [arr]
  | .inl i :: r, xs, ds, ys, es, hx, lx, hd, ld => by
    have ih := arr_same (ix := r) hx lx hd ld
    cases q : xs[i]? with
    | none =>
      have q' : ys[i]? = none := by
        rw [List.getElem?_eq_none_iff] at q ⊢
        omega
      simp [arr, q, q']
    | some x =>
      obtain ⟨y, e, _⟩ := hx i x q
      cases q2 : arr r xs ds with
      | none => simp [arr, q, e, q2, ih.mp q2]
      | some l =>
        cases q3 : arr r ys es with
        | none => rw [ih.mpr q3] at q2; cases q2
        | some m => simp [arr, q, e, q2, q3]
  | .inr i :: r, xs, ds, ys, es, hx, lx, hd, ld => by
    have ih := arr_same (ix := r) hx lx hd ld
    cases q : ds[i]? with
    | none =>
      have q' : es[i]? = none := by
        rw [List.getElem?_eq_none_iff] at q ⊢
        omega
      simp [arr, q, q']
    | some x =>
      obtain ⟨y, e, _⟩ := hd i x q
      cases q2 : arr r xs ds with
      | none => simp [arr, q, e, q2, ih.mp q2]
      | some l =>
        cases q3 : arr r ys es with
        | none => rw [ih.mpr q3] at q2; cases q2
        | some m => simp [arr, q, e, q2, q3]
theorem vals_app : ∀ {vs ws : List V} {us zs : List Value}, Vals vs us → Vals ws zs → Vals (vs ++ ws) (us ++ zs) := by
  intro vs ws us zs h k
  induction h with
  | nil => exact k
  | cons r _ ih => exact .cons r ih
theorem arr_vals {vs zs ds : List V} {us ws its : List Value} (r : Vals vs us) (rz : Vals zs ws) (rd : Vals ds its) : Vals ((arr ix (vs ++ zs) ds).getD []) ((arr ix (us ++ ws) its).getD []) := by
  have ra := vals_app r rz
  have sm := arr_same (ix := ix) (F := RelV) (vals_at ra) ra.length (vals_at rd) rd.length
  cases q : arr ix (vs ++ zs) ds with
  | none => rw [sm.mp q]; exact .nil
  | some l =>
    cases q2 : arr ix (us ++ ws) its with
    | none => rw [sm.mpr q2] at q; cases q
    | some m =>
      obtain ⟨h1, h2⟩ := arr_two (F := RelV) (vals_at ra) (vals_at rd) q q2
      exact vals_of h1 h2
/-- no look at the defaults -/
theorem kbn_plain (F : FunD K x qual params body scope dvs kws f fd)
    (h : ∀ (dV kV doc pm : Value) (an : Option Addr) (cdv ct : Value) (us ws its : List Value), us.length = n → ws.length = ks.length → bindArgs (PySem.W.fnOf x qual params body scope dV kV doc pm an cdv ct) ⟨us, ks.zip ws⟩ = pure (ps.zip ((arr ix (us ++ ws) its).getD []))) :
    ∃ its, Vals dvs its ∧ KBn K fd ps n ks (fun us ws => (arr ix (us ++ ws) its).getD []) (fun vs zs => (arr ix (vs ++ zs) dvs).getD []) := by
  obtain ⟨oc, od, dV, kV, doc, pm, an, cdv, ct, osl, rfl, lk, hcd, hD, hK⟩ := F.ex
  have hv : ∃ its, Vals dvs its := by
    rcases hD with ⟨e, _⟩ | ⟨_, T, o, its, m, rfl, lT, oT, rT⟩
    · subst e; exact ⟨[], .nil⟩
    · exact ⟨its, rT⟩
  obtain ⟨its, rT⟩ := hv
  exact ⟨its, rT, fun s us ws X l1 l2 => .of_eq (h dV kV doc pm an cdv ct us ws its l1 l2), fun r rz => arr_vals r rz rT⟩
/-- the defaults are read -/
theorem kbn_dfl (F : FunD K x qual params body scope dvs kws f fd) (hd : dvs ≠ [])
    (h : ∀ (T : Addr) (kV doc pm : Value) (an : Option Addr) (cdv ct : Value) (us ws its : List Value), us.length = n → ws.length = ks.length → its.length = dvs.length →
      ∃ k, bindArgs (PySem.W.fnOf x qual params body scope (.ref T) kV doc pm an cdv ct) ⟨us, ks.zip ws⟩ = seqItems? (.ref T) >>= k ∧ k (some its.toArray) = pure (ps.zip ((arr ix (us ++ ws) its).getD []))) :
    ∃ its, Vals dvs its ∧ KBn K fd ps n ks (fun us ws => (arr ix (us ++ ws) its).getD []) (fun vs zs => (arr ix (vs ++ zs) dvs).getD []) := by
  obtain ⟨oc, od, dV, kV, doc, pm, an, cdv, ct, osl, rfl, lk, hcd, hD, hK⟩ := F.ex
  rcases hD with ⟨e, _⟩ | ⟨_, T, o, its, m, rfl, lT, oT, rT⟩
  · exact absurd e hd
  · refine ⟨its, rT, fun s us ws X l1 l2 => ?_, fun r rz => arr_vals r rz rT⟩
    obtain ⟨k, e1, e2⟩ := h T kV doc pm an cdv ct us ws its l1 l2 rT.length.symm
    refine BindsTo.of_looks fun M => ?_
    rw [e1]
    exact looks_items X lT oT (.of_pure e2)
theorem call_arr {P : Program} {w : World} {mg : Str → Option Value} {base : Heap} {k : Nat} {N : Nm} {T : Tr} {ds : List D} {g : List Value → List Value → List Value} (F : FnOk P w K mg base (L2.CX P w) k f fd ps (spOf N T)) (hb : KBn K fd ps n ks g (fun vs zs => (arr ix (vs ++ zs) dvs).getD []))
    (hd : ∀ (j : Nat) (d : D), ds[j]? = some d → ∃ v, dvs[j]? = some v ∧ ∀ I H, Rep N I H d v) (hs : ∀ vs : List V, vs.length = n + ks.length → (arr ix vs dvs).isSome = true) : CallOk P w K mg base k f n ks (spOf N (arrT ix ds T)) := by
  refine call_of F hb fun vs zs H Q E l1 l2 h => ?_
  have z := hs (vs ++ zs) (by rw [List.length_append, l1, l2])
  cases q : arr ix (vs ++ zs) dvs with
  | none => rw [q] at z; cases z
  | some us' => exact sp_arr h q hd
end
end Ev
set_option Elab.async false
set_option linter.all false
set_option autoImplicit false
set_option maxRecDepth 100000
set_option maxHeartbeats 1000000
namespace Ev
open PySem PySem.Spec PyProof.Rows L2
/-! ### errors as values: C(..) -/
/-- self.f = e, one behind another -/
def tIni (K : PySem.W.Frag) : List (Str × TE) → TS
  | [] => tNext
  | (f, te) :: r => tSeq (tOst K f (tVar 0) te) (tIni K r)
def InitSt (X : Cx) : List Stmt → List (Str × TE) → Prop
  | [], l => l = []
  | st :: r, l => ∃ f te l', l = (f, te) :: l' ∧ PS X st (tOst X.K f (tVar 0) te) ∧ InitSt X r l'
theorem ini_pss {X : Cx} : ∀ {sts : List Stmt} {l : List (Str × TE)}, InitSt X sts l → PSs X sts (tIni X.K l)
  | [], l, h => by
    have h : l = [] := h
    subst h
    exact pss_nil
  | st :: r, l, ⟨f, te, l', e, h1, h2⟩ => by
    subst e
    exact pss_cons h1 (ini_pss h2)
theorem upd_swap {H : Hp} {a b : Addr} {o u v : HO} (h : b ≠ a) : upd (upd (upd H b o) a u) b v = upd (upd H b v) a u := by
  funext c
  by_cases h1 : c = b
  · subst h1
    rw [upd_same, upd_ne h, upd_same]
  · rw [upd_ne h1]
    by_cases h2 : c = a
    · subst h2
      rw [upd_same, upd_same]
    · rw [upd_ne h2, upd_ne h2, upd_ne h1, upd_ne h1]
/-- the values that are stored -/
def IniV (σ : L2.St) : List (Str × TE) → List (Str × V) → Prop
  | [], ys => ys = []
  | (f, te) :: r, ys => ∃ y ys', ys = (f, y) :: ys' ∧ (∀ H Q, Q y H → te σ H Q) ∧ IniV σ r ys'
theorem ini_more {K : PySem.W.Frag} {a C dx : Addr} {σ : L2.St} (T : OexC K C) (s0 : σ[0]? = some (some (.ref a))) (ne : dx ≠ a) {D : Ends} {H : Hp} : ∀ {l : List (Str × TE)} {ys fs : List (Str × V)}, IniV σ l ys → (∀ p ∈ l, PySem.W.findIn K (.ref C) p.1 = some none) → ys.length + fs.length ≤ 900 →
    D.nx σ (upd (upd H dx (exd dx (ys.reverse ++ fs))) a (exo a C (some dx))) → tIni K l D σ (upd (upd H dx (exd dx fs)) a (exo a C (some dx)))
  | [], ys, fs, h, _, _, q => by
    have h : ys = [] := h
    subst h
    exact q
  | (f, te) :: r, ys, fs, ⟨y, ys', e, h1, h2⟩, hn, hl, q => by
    subst e
    refine h1 _ _ ⟨_, s0, a, C, rfl, T, hn (f, te) (List.mem_cons_self ..), .inr ⟨dx, fs, upd_same, by rw [upd_ne ne]; exact upd_same, by simp at hl; omega, ?_⟩⟩
    rw [upd_swap ne]
    refine ini_more T s0 ne (fs := (f, y) :: fs) h2 (fun p hp => hn p (List.mem_cons_of_mem _ hp)) (by simp at hl ⊢; omega) ?_
    simpa using q
theorem ini_run {K : PySem.W.Frag} {a C : Addr} {σ : L2.St} (T : OexC K C) (s0 : σ[0]? = some (some (.ref a))) {D : Ends} {H : Hp} (hH : H a = some (exo a C none)) : ∀ {l : List (Str × TE)} {ys : List (Str × V)}, l ≠ [] → IniV σ l ys → (∀ p ∈ l, PySem.W.findIn K (.ref C) p.1 = some none) → ys.length ≤ 900 →
    (∀ dx, H dx = none → dx ≠ a → D.nx σ (upd (upd H dx (exd dx ys.reverse)) a (exo a C (some dx)))) → tIni K l D σ H
  | [], ys, hne, _, _, _, _ => (hne rfl).elim
  | (f, te) :: r, ys, _, ⟨y, ys', e, h1, h2⟩, hn, hl, q => by
    subst e
    refine h1 _ _ ⟨_, s0, a, C, rfl, T, hn (f, te) (List.mem_cons_self ..), .inl ⟨hH, fun dx hd ne => ?_⟩⟩
    refine ini_more T s0 ne (fs := [(f, y)]) h2 (fun p hp => hn p (List.mem_cons_of_mem _ hp)) (by simp at hl ⊢; omega) ?_
    have z := q dx hd ne
    simpa using z
/-- __init__ of an error: the attributes that it stores, from its arguments -/
def spInit (C : Addr) (n : Nat) (st : List V → List (Str × V)) : Sp := fun vs H Q _ => ∃ a ds, vs = .ref a :: ds ∧ ds.length = n ∧ H a = some (exo a C none) ∧ ∀ dx, H dx = none → dx ≠ a → Q .non (upd (upd H dx (exd dx (st ds).reverse)) a (exo a C (some dx)))
section
variable {P : Program} {w : World} {K : PySem.W.Frag} {mg : Str → Option Value} {base : Heap} {k n : Nat} {C fI : Addr} {fd : FuncData} {ps ks : List Str} {N : Nm} {st : List V → List (Str × V)}
theorem init_ok {x qual : Str} {params : Arguments} {stmts : List Stmt} {scope : Scope} {f : Addr} (F : FunD K x qual params stmts scope [] [] f fd) (Sc : FnScope ps ps scope) (T : OexC K C) (hl : ps.length = n + 1) {l : List (Str × TE)} (hne : l ≠ []) (hn : ∀ p ∈ l, PySem.W.findIn K (.ref C) p.1 = some none)
    (hP : ∀ (X : Cx), X.N = ps → X.K = K → X.env.scope = scope → X.calm = true → InitSt X stmts l) (hV : ∀ (a : Addr) (ds : List V), ds.length = n → IniV ((V.ref a :: ds).map some) l (st ds) ∧ (st ds).length ≤ 900) : FnOk P w K mg base (L2.CX P w) (k + 1) f fd ps (spInit C n st) := by
  refine F.ok Sc (fun vs H Q E ⟨a, ds, e, l1, _⟩ => by subst e; simp; omega) fun cdv A outer s H vs Q E hr ⟨a, ds, e, l1, hH, q⟩ => ?_
  subst e
  refine ⟨_, ini_pss (hP _ rfl rfl rfl rfl), ?_⟩
  have es : L2.start ps (V.ref a :: ds) = (V.ref a :: ds).map some := by
    unfold L2.start
    have : ps.length - (V.ref a :: ds).length = 0 := by simp; omega
    rw [this]
    simp
  rw [es]
  obtain ⟨h1, h2⟩ := hV a ds l1
  exact ini_run T rfl hH hne h1 hn h2 q
/-- C(..), every parameter by place -/
theorem call_oex (T : OexC K C) (iC : PySem.W.findIn K (.ref C) "__init__" = some (some (.ref fI))) (tI : PySem.W.typeIn K (.ref fI) = some (.type "function")) (F1 : FnOk P w K mg base (L2.CX P w) k fI fd ps (spInit C n st)) (hb : Binds K fd ps []) (hl : ps.length = n + 1) (hn : n ≤ 1000) {sp : Sp}
    (hsp : ∀ vs H Q E, sp vs H Q E → vs.length = n ∧ ∀ a dx, H a = none → H dx = none → a ≠ dx → Q (.ref a) (upd (upd H dx (exd dx (st vs).reverse)) a (exo a C (some dx)))) : CallOk P w K mg base (k + 1) C n [] sp := by
  intro A outer s H us ws vs zs Q E hr e0 r rz l1 l2 h
  have ez : ws = [] := List.eq_nil_of_length_eq_zero l2
  subst ez
  cases rz
  rw [List.append_nil] at h
  obtain ⟨lv, hq⟩ := hsp vs H Q E h
  obtain ⟨nm, q, N, bs, bm, sn, sub, ab, col, dd, k0, k1, k2, k3, k5, hC, hbm⟩ := T.cls
  have KX : K.In s.heap := e0.mod.kin.keeps fun b o e => (e0.bs b o e).1
  obtain ⟨hp, g, dr, tk, os⟩ := s
  have hsz : hp.objs.size ≤ hp.objs.size + 1 := Nat.le_succ _
  have hn0 : H (hp.objs.size + 1) = none := e0.hok.fresh hsz
  have kk : ∀ b o, hp.get? b = some o → ((hp.push (PySem.W.kdv_tup us)).push (PySem.HandSPX.excO C hp.objs.size)).get? b = some o := fun b o e => Heap.get?_push_of_some _ (Heap.get?_push_of_some _ e)
  have hget : ((hp.push (PySem.W.kdv_tup us)).push (PySem.HandSPX.excO C hp.objs.size)).get? (hp.objs.size + 1) = some (PySem.HandSPX.excO C hp.objs.size) := by heap_get
  have nb : ∀ {b : Addr} {o : Obj}, hp.get? b = some o → b ≠ hp.objs.size + 1 := fun {b o} e => Nat.ne_of_lt (Nat.lt_of_lt_of_le (Heap.lt_size e) hsz)
  have un1 : Un (frs outer) [] H (upd H (hp.objs.size + 1) (exo (hp.objs.size + 1) C none)) hp ((hp.push (PySem.W.kdv_tup us)).push (PySem.HandSPX.excO C hp.objs.size)) := Un.laid kk hsz hn0
  have hok1 : HOk P w (upd H (hp.objs.size + 1) (exo (hp.objs.size + 1) C none)) ((hp.push (PySem.W.kdv_tup us)).push (PySem.HandSPX.excO C hp.objs.size)) := e0.hok.laid kk hsz (exo_ok hget)
  have e1 : Env0 P w K mg base A outer ⟨(hp.push (PySem.W.kdv_tup us)).push (PySem.HandSPX.excO C hp.objs.size), g, dr, tk, os⟩ (upd H (hp.objs.size + 1) (exo (hp.objs.size + 1) C none)) := {
    frames := e0.frames
    mod := e0.mod
    bs := fun b o e => by
      obtain ⟨h1, h2⟩ := e0.bs b o e
      exact ⟨kk b o h1, by rw [upd_ne (nb h1)]; exact h2⟩
    bsz := Nat.le_trans e0.bsz (by simp only [Heap.size_push]; exact Nat.le_succ_of_le (Nat.le_succ _))
    funs := e0.funs.of_keeps fun b o hb _ => ⟨o, kk b o hb, rfl⟩
    frf := fun b hb => by
      by_cases hbe : b = hp.objs.size + 1
      · subst hbe
        exfalso
        obtain ⟨_, o, ho, _⟩ := e0.funs.mem hb
        exact nb ho rfl
      · rw [upd_ne hbe]; exact e0.frf b hb
    hok := hok1
    bare := e0.bare }
  have r2 : Vals (V.ref (hp.objs.size + 1) :: vs) (Value.ref (hp.objs.size + 1) :: us) := .cons rfl r
  have hus : us.length ≤ sizeLine := by
    rw [sizeLine_eq]
    omega
  have hbl : (Value.ref (hp.objs.size + 1) :: us ++ []).length = ps.length := by simp; omega
  have bt := hb ⟨(hp.push (PySem.W.kdv_tup us)).push (PySem.HandSPX.excO C hp.objs.size), g, dr, tk, os⟩ (Value.ref (hp.objs.size + 1) :: us) (KX.keeps kk) hbl
  rw [List.append_nil] at bt
  refine PySem.HandSPX.call_own F.excBase_ValueError (fun Y => PySem.HandSPX.refsVE_contains Y bm hbm) (KX _ _ hC) (PySem.W.looks_findIn KX iC) (fun self => PySem.W.bind_fn KX self tI) hus
    (codeAny_mono (F1.run _ outer _ _ ⟨Value.ref (hp.objs.size + 1) :: us, []⟩ (Value.ref (hp.objs.size + 1) :: us) _ (fun v H2 => v = .non ∧ Q (.ref (hp.objs.size + 1)) H2) (fun _ _ _ => False) (hr.make C us []) (e1.make C us []) bt r2 ⟨_, vs, rfl, lv, upd_same, fun dx hd ne => ⟨rfl, ?_⟩⟩) fun r s' hq' => ?_)
  · have hd' : H dx = none := by rw [upd_ne ne] at hd; exact hd
    have z := hq _ dx hn0 hd' (Ne.symm ne)
    have e : upd (upd (upd H (hp.objs.size + 1) (exo (hp.objs.size + 1) C none)) dx (exd dx (st vs).reverse)) (hp.objs.size + 1) (exo (hp.objs.size + 1) C (some dx)) = upd (upd H dx (exd dx (st vs).reverse)) (hp.objs.size + 1) (exo (hp.objs.size + 1) C (some dx)) := by
      funext c
      by_cases h1 : c = hp.objs.size + 1
      · rw [h1, upd_same, upd_same]
      · rw [upd_ne h1, upd_ne h1]
        by_cases h2 : c = dx
        · rw [h2, upd_same, upd_same]
        · rw [upd_ne h2, upd_ne h2, upd_ne h1]
    rw [e]
    exact z
  · cases r with
    | error er =>
      obtain ⟨_, _, _, _, _, _, _, _, _, _, _, _, z⟩ := hq'
      exact z.elim
    | ok fl =>
      cases fl with
      | ret u =>
        obtain ⟨v, H2, os2, bare2, un2, hok2, rv, ev, q2⟩ := hq'
        subst ev
        exact ⟨rv, .ref (hp.objs.size + 1), H2, os2, bare2, un1.trans un2, hok2, rfl, q2⟩
      | next => exact hq'.elim
      | brk => exact hq'.elim
      | cont => exact hq'.elim
end
end Ev
set_option Elab.async false
set_option linter.all false
set_option autoImplicit false
set_option maxRecDepth 100000
set_option maxHeartbeats 1000000
namespace Ev
open PySem PySem.Spec PyProof.Rows L2
abbrev imms (ds : List D) : List Val := ds.map fun d => ((.imm, d) : Val)
/-- a new error -/
def excT (c : Nat) (an : List Nat) (n : Nat) (fsD : List D → List (Nat × D)) : Tr := fun as Q _ => ∃ ds, as = imms ds ∧ ds.length = n ∧ Q (.imm, .exc c an (fsD ds)) as
theorem repL_of {N : Nm} {I : Addr → Prop} {H : Hp} {Θ : Th} : ∀ {ds : List D} {vs : List V}, vs.length = ds.length → (∀ (i : Nat) (d : D), ds[i]? = some d → ∃ v, vs[i]? = some v ∧ Rep N I H d v) → RepL N I H ds vs
  | [], vs, l, _ => List.eq_nil_of_length_eq_zero l
  | d :: ds, [], l, _ => by simp at l
  | d :: ds, v :: vs, l, h => by
    obtain ⟨v', e, r⟩ := h 0 d rfl
    cases e
    exact ⟨v, vs, rfl, r, repL_of (Θ := Θ) (by simpa using l) fun i d e => h (i + 1) d e⟩
theorem exc_sp {N : Nm} {c n : Nat} {an : List Nat} {fsD : List D → List (Nat × D)} {st : List V → List (Str × V)} (hx : N.xok c an) (hF : ∀ (I : Addr → Prop) (H : Hp) ds vs, ds.length = n → RepL N I H ds vs → RepF N I H (fsD ds) (st vs).reverse) (vs : List V) (H : Hp) (Q : VK) (E : XK) (h : spOf N (excT c an n fsD) vs H Q E) :
    vs.length = n ∧ ∀ a dx, H a = none → H dx = none → a ≠ dx → Q (.ref a) (upd (upd H dx (exd dx (st vs).reverse)) a (exo a (N.cls c) (some dx))) := by
  obtain ⟨I, as, Q0, X0, r, lv, ok, ⟨ds, rfl, ln, hq⟩, kq, kx⟩ := h
  have lv : vs.length = ds.length := by rw [lv]; simp
  refine ⟨lv.trans ln, fun a dx ha hd ne => ?_⟩
  have rl : RepL N I H ds vs := repL_of (Θ := thOf H I (imms ds) vs) lv fun i d e => by
    obtain ⟨v, hv, rv⟩ := r.rep i (.imm, d) (by simp [e])
    have hv' : (vs.map some)[i]? = some (some v) := hv
    rw [List.getElem?_map] at hv'
    cases q : vs[i]? with
    | none => rw [q] at hv'; cases hv'
    | some u => rw [q] at hv'; cases hv'; exact ⟨_, rfl, (repV_imm rfl).mp rv⟩
  have rs := r.step (Step.exc ha hd ne hx (hF I H ds vs ln rl)) (by simp [lv])
  exact kq _ _ hq _ _ _ _ _ (.inl rfl) rs (by simp [lv]) (by simp) (outs_all' ds)
where
  outs_all' : ∀ ds : List D, outsOf (imms ds) ((imms ds).map some) = some (imms ds)
  | [] => rfl
  | d :: ds => by
    show (outsOf (imms ds) ((imms ds).map some)).map _ = _
    rw [outs_all' ds]
    rfl
end Ev
set_option Elab.async false
set_option linter.all false
set_option autoImplicit false
set_option maxRecDepth 100000
set_option maxHeartbeats 1000000
namespace Ev
namespace Lw
open PySem PySem.Spec PyProof.Rows
def b__is_number : Ss := (.cons (.ret (.and_ (.op (.isi [.int]) (.v 0 .nil)) (.not_ (.op (.isi [.bool]) (.v 0 .nil))))) .nil)
def b_is_fraction : Ss := (.cons (.ife (.or_ (.not_ (.t (.op (.isi [.tuple]) (.v 0 .nil)))) (.t (.op .ne (.e (.op .len (.v 0 .nil)) (.e (.cst (.int 2)) .nil))))) (.cons (.ret (.cst (.bl false))) .nil) .nil) (.cons (.asg (.vs [1, 2]) (.var 0)) (.cons (.ife (.or_ (.not_ (.t (.call 0 (.v 1 .nil)))) (.not_ (.t (.call 0 (.v 2 .nil))))) (.cons (.ret (.cst (.bl false))) .nil) .nil) (.cons (.ret (.and_ (.op .ge (.v 2 (.e (.cst (.int 1)) .nil))) (.op .eq (.e (.op .gcd (.v 1 (.v 2 .nil))) (.e (.cst (.int 1)) .nil))))) .nil))))
def b_is_spot : Ss := (.cons (.ret (.and_ (.op (.isi [.tuple]) (.v 0 .nil)) (.and_ (.op .eq (.e (.op .len (.v 0 .nil)) (.e (.cst (.int 2)) .nil))) (.and_ (.call 1 (.e (.op .idx (.v 0 (.e (.cst (.int 0)) .nil))) .nil)) (.call 1 (.e (.op .idx (.v 0 (.e (.cst (.int 1)) .nil))) .nil)))))) .nil)
def b_fraction : Ss := (.cons (.ife (.t (.op .eq (.v 1 (.e (.cst (.int 0)) .nil)))) (.cons .never .nil) .nil) (.cons (.asg (.v 2) (.op .gcd (.v 0 (.v 1 .nil)))) (.cons (.ife (.t (.op .lt (.v 1 (.e (.cst (.int 0)) .nil)))) (.cons (.asg (.v 2) (.op .neg (.v 2 .nil))) .nil) .nil) (.cons (.ret (.tup (.cons (.op .fdiv (.v 0 (.v 2 .nil))) (.cons (.op .fdiv (.v 1 (.v 2 .nil))) .nil)))) .nil))))
def b_plus : Ss := (.cons (.ife (.and_ (.t (.op .eq (.e (.op .idx (.v 0 (.e (.cst (.int 1)) .nil))) (.e (.cst (.int 1)) .nil)))) (.t (.op .eq (.e (.op .idx (.v 1 (.e (.cst (.int 1)) .nil))) (.e (.cst (.int 1)) .nil))))) (.cons (.ret (.tup (.cons (.op .add (.e (.op .idx (.v 0 (.e (.cst (.int 0)) .nil))) (.e (.op .idx (.v 1 (.e (.cst (.int 0)) .nil))) .nil))) (.cons (.cst (.int 1)) .nil)))) .nil) .nil) (.cons (.ret (.call 2 (.e (.op .add (.e (.op .mul (.e (.op .idx (.v 0 (.e (.cst (.int 0)) .nil))) (.e (.op .idx (.v 1 (.e (.cst (.int 1)) .nil))) .nil))) (.e (.op .mul (.e (.op .idx (.v 1 (.e (.cst (.int 0)) .nil))) (.e (.op .idx (.v 0 (.e (.cst (.int 1)) .nil))) .nil))) .nil))) (.e (.op .mul (.e (.op .idx (.v 0 (.e (.cst (.int 1)) .nil))) (.e (.op .idx (.v 1 (.e (.cst (.int 1)) .nil))) .nil))) .nil)))) .nil))
def b_times : Ss := (.cons (.ife (.and_ (.t (.op .eq (.e (.op .idx (.v 0 (.e (.cst (.int 1)) .nil))) (.e (.cst (.int 1)) .nil)))) (.t (.op .eq (.e (.op .idx (.v 1 (.e (.cst (.int 1)) .nil))) (.e (.cst (.int 1)) .nil))))) (.cons (.ret (.tup (.cons (.op .mul (.e (.op .idx (.v 0 (.e (.cst (.int 0)) .nil))) (.e (.op .idx (.v 1 (.e (.cst (.int 0)) .nil))) .nil))) (.cons (.cst (.int 1)) .nil)))) .nil) .nil) (.cons (.ret (.call 2 (.e (.op .mul (.e (.op .idx (.v 0 (.e (.cst (.int 0)) .nil))) (.e (.op .idx (.v 1 (.e (.cst (.int 0)) .nil))) .nil))) (.e (.op .mul (.e (.op .idx (.v 0 (.e (.cst (.int 1)) .nil))) (.e (.op .idx (.v 1 (.e (.cst (.int 1)) .nil))) .nil))) .nil)))) .nil))
def b_fraction_text : Ss := (.cons (.ret (.ife (.t (.op .eq (.e (.op .idx (.v 0 (.e (.cst (.int 1)) .nil))) (.e (.cst (.int 1)) .nil)))) (.op .toStr (.e (.op .idx (.v 0 (.e (.cst (.int 0)) .nil))) .nil)) (.fmt (.cons (.op .idx (.v 0 (.e (.cst (.int 0)) .nil))) (.cons (.cst (.str "/")) (.cons (.op .idx (.v 0 (.e (.cst (.int 1)) .nil))) .nil)))))) .nil)
def b__read_figures : Ss := (.cons (.ife (.or_ (.t (.op .eq (.v 0 (.e (.cst (.str "")) .nil)))) (.t (.op .ne (.e (.op .stripC (.v 0 (.e (.glo 0) .nil))) (.e (.cst (.str "")) .nil))))) (.cons (.ret (.cst .non)) .nil) .nil) (.cons (.ife (.and_ (.t (.op .startsw (.v 0 (.e (.cst (.str "0")) .nil)))) (.t (.op .gt (.e (.op .len (.v 0 .nil)) (.e (.cst (.int 1)) .nil))))) (.cons (.ret (.cst .non)) .nil) .nil) (.cons (.ret (.op .toIntS (.v 0 .nil))) .nil)))
def b__read_number : Ss := (.cons (.ife (.not_ (.t (.op .startsw (.v 0 (.e (.cst (.str "-")) .nil))))) (.cons (.ret (.call 3 (.v 0 .nil))) .nil) .nil) (.cons (.asg (.v 1) (.call 3 (.e (.op (.slcS true false) (.v 0 (.n (.cst (.int 1)) .nil))) .nil))) (.cons (.ife (.or_ (.t (.op .isN (.v 1 .nil))) (.t (.op .eq (.v 1 (.e (.cst (.int 0)) .nil))))) (.cons (.ret (.cst .non)) .nil) .nil) (.cons (.ret (.op .neg (.v 1 .nil))) .nil))))
def b_read_fraction : Ss := (.cons (.ife (.not_ (.t (.op (.isi [.str]) (.v 0 .nil)))) (.cons (.ret (.cst .non)) .nil) .nil) (.cons (.asg (.vs [3, 4, 5]) (.op .part (.v 0 (.e (.cst (.str "/")) .nil)))) (.cons (.asg (.v 1) (.call 4 (.v 3 .nil))) (.cons (.ife (.t (.op .isN (.v 1 .nil))) (.cons (.ret (.cst .non)) .nil) .nil) (.cons (.ife (.t (.op .eq (.v 4 (.e (.cst (.str "")) .nil)))) (.cons (.ret (.tup (.cons (.var 1) (.cons (.cst (.int 1)) .nil)))) .nil) .nil) (.cons (.asg (.v 2) (.call 3 (.v 5 .nil))) (.cons (.ife (.or_ (.t (.op .isN (.v 2 .nil))) (.or_ (.t (.op .lt (.v 2 (.e (.cst (.int 2)) .nil)))) (.t (.op .ne (.e (.op .gcd (.v 1 (.v 2 .nil))) (.e (.cst (.int 1)) .nil)))))) (.cons (.ret (.cst .non)) .nil) .nil) (.cons (.ret (.tup (.cons (.var 1) (.cons (.var 2) .nil)))) .nil))))))))
def b__law_bag : Ss := (.cons (.asg (.v 1) (.imm (.op .toList (.e (.op (.slc false true) (.v 0 (.n (.cst (.int 63)) .nil))) .nil)))) (.cons (.ret (.lst (.cons (.var 1) (.cons (.cst (.int 0)) (.cons (.cst (.int 0)) (.cons (.op .add (.e (.cst (.int 12036)) (.e (.op .mul (.e (.cst (.int 37)) (.e (.op .len (.v 1 .nil)) .nil))) .nil))) (.cons (.cst (.int 0)) .nil))))))) .nil))
def b__law_draw : Ss := (.cons (.setIdx 0 (.cst (.int 4)) (.op .add (.e (.op .idx (.v 0 (.e (.cst (.int 4)) .nil))) (.e (.cst (.int 1)) .nil)))) (.cons (.ife (.and_ (.t (.op .eq (.e (.op .idx (.v 0 (.e (.cst (.int 2)) .nil))) (.e (.cst (.int 0)) .nil)))) (.t (.op .lt (.e (.op .idx (.v 0 (.e (.cst (.int 1)) .nil))) (.e (.op .len (.e (.op .idx (.v 0 (.e (.cst (.int 0)) .nil))) .nil)) .nil))))) (.cons (.asg (.v 3) (.op .abs (.e (.op .idx (.e (.op .idx (.v 0 (.e (.cst (.int 0)) .nil))) (.e (.op .idx (.v 0 (.e (.cst (.int 1)) .nil))) .nil))) .nil))) (.cons (.setIdx 0 (.cst (.int 1)) (.op .add (.e (.op .idx (.v 0 (.e (.cst (.int 1)) .nil))) (.e (.cst (.int 1)) .nil)))) (.cons (.ife (.t (.op .ge (.v 3 (.e (.op .pow (.e (.cst (.int 10)) (.e (.cst (.int 18)) .nil))) .nil)))) (.cons (.setIdx 0 (.cst (.int 2)) (.var 3)) .nil) (.cons (.setIdx 0 (.cst (.int 3)) (.op .mod (.e (.op .toInt (.e (.op .add (.e (.op .add (.e (.op .mul (.e (.op .idx (.v 0 (.e (.cst (.int 3)) .nil))) (.e (.cst (.int 40961)) .nil))) (.e (.op .mul (.e (.op .mod (.e (.op .toInt (.v 3 .nil)) (.e (.cst (.int 2147483029)) .nil))) (.e (.cst (.int 773)) .nil))) .nil))) (.e (.cst (.int 43)) .nil))) .nil)) (.e (.cst (.int 2147483423)) .nil)))) .nil)) .nil))) .nil) (.cons (.ife (.t (.op .gt (.e (.op .idx (.v 0 (.e (.cst (.int 2)) .nil))) (.e (.cst (.int 0)) .nil)))) (.cons (.asg (.v 4) (.op .mod (.e (.op .toInt (.e (.op .idx (.v 0 (.e (.cst (.int 2)) .nil))) .nil)) (.v 1 .nil)))) (.cons (.setIdx 0 (.cst (.int 2)) (.op .fdiv (.e (.op .idx (.v 0 (.e (.cst (.int 2)) .nil))) (.v 1 .nil)))) (.cons (.retV 4) .nil))) .nil) (.cons (.asg (.v 2) (.op .idx (.v 0 (.e (.cst (.int 3)) .nil)))) (.cons (.setIdx 0 (.cst (.int 3)) (.op .mod (.e (.op .toInt (.e (.op .add (.e (.op .add (.e (.op .add (.e (.op .pow (.v 2 (.e (.cst (.int 3)) .nil))) (.e (.op .mul (.v 2 (.e (.cst (.int 27617)) .nil))) .nil))) (.e (.op .mul (.e (.op .idx (.v 0 (.e (.cst (.int 4)) .nil))) (.e (.cst (.int 1299721)) .nil))) .nil))) (.e (.cst (.int 52363)) .nil))) .nil)) (.e (.cst (.int 2147483423)) .nil)))) (.cons (.ret (.op .mod (.e (.op .toInt (.e (.op .add (.e (.op .fdiv (.e (.op .idx (.v 0 (.e (.cst (.int 3)) .nil))) (.e (.cst (.int 67)) .nil))) (.e (.op .mul (.e (.op .mod (.e (.op .toInt (.e (.op .idx (.v 0 (.e (.cst (.int 3)) .nil))) .nil)) (.e (.cst (.int 7919)) .nil))) (.e (.cst (.int 53)) .nil))) .nil))) .nil)) (.v 1 .nil)))) .nil))))))
def b__law_pick : Ss := (.cons (.ret (.op .idx (.v 1 (.e (.call 5 (.v 0 (.e (.op .len (.v 1 .nil)) .nil))) .nil)))) .nil)
def b__law_same : Ss := (.cons (.ife (.t (.op (.isi [.list, .tuple]) (.v 1 .nil))) (.cons (.ife (.or_ (.t (.op .ne (.e (.op (.isi [.list]) (.v 0 .nil)) (.e (.op (.isi [.list]) (.v 1 .nil)) .nil)))) (.t (.op .ne (.e (.op (.isi [.tuple]) (.v 0 .nil)) (.e (.op (.isi [.tuple]) (.v 1 .nil)) .nil))))) (.cons (.ret (.cst (.bl false))) .nil) .nil) (.cons (.ret (.and_ (.op .eq (.e (.op .len (.v 0 .nil)) (.e (.op .len (.v 1 .nil)) .nil))) (.op .all (.e (.comp [2, 3] (.vs [2, 3]) (.zip (.var 0) (.var 1)) .tt (.call 6 (.v 2 (.v 3 .nil)))) .nil)))) .nil)) .nil) (.cons (.ife (.t (.op (.isi [.list, .tuple]) (.v 0 .nil))) (.cons (.ret (.cst (.bl false))) .nil) .nil) (.cons (.ife (.or_ (.t (.op .isN (.v 1 .nil))) (.t (.op .isN (.v 0 .nil)))) (.cons (.ret (.and_ (.op .isN (.v 1 .nil)) (.op .isN (.v 0 .nil)))) .nil) .nil) (.cons (.ife (.or_ (.t (.op (.isi [.bool]) (.v 1 .nil))) (.t (.op (.isi [.bool]) (.v 0 .nil)))) (.cons (.ret (.and_ (.op (.isi [.bool]) (.v 1 .nil)) (.and_ (.op (.isi [.bool]) (.v 0 .nil)) (.op .eq (.v 0 (.v 1 .nil)))))) .nil) .nil) (.cons (.ife (.or_ (.t (.op (.isi [.int]) (.v 1 .nil))) (.t (.op (.isi [.int]) (.v 0 .nil)))) (.cons (.ret (.and_ (.op (.isi [.int]) (.v 1 .nil)) (.and_ (.op (.isi [.int]) (.v 0 .nil)) (.op .eq (.v 0 (.v 1 .nil)))))) .nil) .nil) (.cons (.ife (.or_ (.t (.op (.isi [.str]) (.v 1 .nil))) (.t (.op (.isi [.str]) (.v 0 .nil)))) (.cons (.ret (.and_ (.op (.isi [.str]) (.v 1 .nil)) (.and_ (.op (.isi [.str]) (.v 0 .nil)) (.op .eq (.v 0 (.v 1 .nil)))))) .nil) .nil) (.cons (.ret (.op .eq (.v 0 (.v 1 .nil)))) .nil)))))))
def b__law_is_whole : Ss := (.cons (.ret (.and_ (.op (.isi [.int]) (.v 0 .nil)) (.not_ (.op (.isi [.bool]) (.v 0 .nil))))) .nil)
def b__law_common : Ss := (.cons (.par [2, 3] (.e (.op .abs (.v 0 .nil)) (.e (.op .abs (.v 1 .nil)) .nil))) (.cons (.whl (.t (.op .gt (.v 3 (.e (.cst (.int 0)) .nil)))) (.cons (.par [2, 3] (.e (.var 3) (.e (.op .mod (.e (.op .toInt (.v 2 .nil)) (.v 3 .nil))) .nil))) .nil)) (.cons (.retV 2) .nil)))
def b__law_low : Ss := (.cons (.asg (.v 2) (.call 7 (.v 0 (.v 1 .nil)))) (.cons (.ife (.t (.op .lt (.v 1 (.e (.cst (.int 0)) .nil)))) (.cons (.asg (.v 2) (.op .sub (.e (.cst (.int 0)) (.v 2 .nil)))) .nil) .nil) (.cons (.ret (.tup (.cons (.op .fdiv (.v 0 (.v 2 .nil))) (.cons (.op .fdiv (.v 1 (.v 2 .nil))) .nil)))) .nil)))
def b__law_is_fraction : Ss := (.cons (.ife (.or_ (.not_ (.t (.op (.isi [.tuple]) (.v 0 .nil)))) (.t (.op .ne (.e (.op .len (.v 0 .nil)) (.e (.cst (.int 2)) .nil))))) (.cons (.ret (.cst (.bl false))) .nil) .nil) (.cons (.ife (.or_ (.not_ (.t (.call 8 (.e (.op .idx (.v 0 (.e (.cst (.int 0)) .nil))) .nil)))) (.not_ (.t (.call 8 (.e (.op .idx (.v 0 (.e (.cst (.int 1)) .nil))) .nil))))) (.cons (.ret (.cst (.bl false))) .nil) .nil) (.cons (.ret (.and_ (.op .gt (.e (.op .idx (.v 0 (.e (.cst (.int 1)) .nil))) (.e (.cst (.int 0)) .nil))) (.op .eq (.e (.call 7 (.e (.op .idx (.v 0 (.e (.cst (.int 0)) .nil))) (.e (.op .idx (.v 0 (.e (.cst (.int 1)) .nil))) .nil))) (.e (.cst (.int 1)) .nil))))) .nil)))
def b__law_is_spot : Ss := (.cons (.ret (.and_ (.op (.isi [.tuple]) (.v 0 .nil)) (.and_ (.op .eq (.e (.op .len (.v 0 .nil)) (.e (.cst (.int 2)) .nil))) (.and_ (.call 9 (.e (.op .idx (.v 0 (.e (.cst (.int 0)) .nil))) .nil)) (.call 9 (.e (.op .idx (.v 0 (.e (.cst (.int 1)) .nil))) .nil)))))) .nil)
def b__law_fraction : Ss := (.cons (.asg (.v 1) (.call 11 (.v 0 (.e (.imm (.lst (.cons (.cst (.int 1)) (.cons (.cst (.int 2)) (.cons (.cst (.int 3)) (.cons (.cst (.int 5)) (.cons (.cst (.int 9)) (.cons (.cst (.int 30)) (.cons (.cst (.int 999999)) .nil))))))))) .nil)))) (.cons (.asg (.v 2) (.op .sub (.e (.call 5 (.v 0 (.e (.op .add (.e (.op .mul (.e (.cst (.int 2)) (.v 1 .nil))) (.e (.cst (.int 1)) .nil))) .nil))) (.v 1 .nil)))) (.cons (.ret (.call 10 (.v 2 (.e (.op .add (.e (.cst (.int 1)) (.e (.call 5 (.v 0 (.e (.call 11 (.v 0 (.e (.imm (.lst (.cons (.cst (.int 1)) (.cons (.cst (.int 1)) (.cons (.cst (.int 1)) (.cons (.cst (.int 2)) (.cons (.cst (.int 3)) (.cons (.var 1) .nil)))))))) .nil))) .nil))) .nil))) .nil)))) .nil)))
def b__law_small : Ss := (.cons (.ret (.call 10 (.e (.op .sub (.e (.call 5 (.v 0 (.e (.cst (.int 9)) .nil))) (.e (.cst (.int 4)) .nil))) (.e (.call 11 (.v 0 (.e (.imm (.lst (.cons (.cst (.int 1)) (.cons (.cst (.int 1)) (.cons (.cst (.int 1)) (.cons (.cst (.int 1)) (.cons (.cst (.int 2)) (.cons (.cst (.int 3)) .nil)))))))) .nil))) .nil)))) .nil)
def b__law_fraction_text : Ss := (.cons (.ret (.op .add (.e (.op .toStr (.e (.op .idx (.v 0 (.e (.cst (.int 0)) .nil))) .nil)) (.e (.ife (.t (.op .eq (.e (.op .idx (.v 0 (.e (.cst (.int 1)) .nil))) (.e (.cst (.int 1)) .nil)))) (.cst (.str "")) (.op .add (.e (.cst (.str "/")) (.e (.op .toStr (.e (.op .idx (.v 0 (.e (.cst (.int 1)) .nil))) .nil)) .nil)))) .nil)))) .nil)
def b__law_odd_fraction : Ss := (.cons (.asg (.v 1) (.call 12 (.v 0 .nil))) (.cons (.asg (.v 2) (.imm (.lst (.cons (.cst .non) (.cons (.cst (.bl true)) (.cons (.cst (.bl false)) (.cons (.op .idx (.v 1 (.e (.cst (.int 0)) .nil))) (.cons (.cst (.str "1")) (.cons (.cst (.str "1/2")) (.cons (.tup .nil) (.cons (.tup (.cons (.op .idx (.v 1 (.e (.cst (.int 0)) .nil))) .nil)) (.cons (.lst (.cons (.op .idx (.v 1 (.e (.cst (.int 0)) .nil))) (.cons (.op .idx (.v 1 (.e (.cst (.int 1)) .nil))) .nil))) (.cons (.tup (.cons (.op .idx (.v 1 (.e (.cst (.int 0)) .nil))) (.cons (.op .idx (.v 1 (.e (.cst (.int 1)) .nil))) (.cons (.cst (.int 1)) .nil)))) (.cons (.tup (.cons (.op .idx (.v 1 (.e (.cst (.int 0)) .nil))) (.cons (.cst (.int 0)) .nil))) (.cons (.tup (.cons (.op .idx (.v 1 (.e (.cst (.int 0)) .nil))) (.cons (.op .sub (.e (.cst (.int 0)) (.e (.op .idx (.v 1 (.e (.cst (.int 1)) .nil))) .nil))) .nil))) (.cons (.tup (.cons (.cst (.int 2)) (.cons (.cst (.int 4)) .nil))) (.cons (.tup (.cons (.cst (.int 0)) (.cons (.cst (.int 2)) .nil))) .nil))))))))))))))))) (.cons (.ret (.call 11 (.v 0 (.e (.imm (.op .add (.v 2 (.e (.lst (.cons (.tup (.cons (.cst (.int 1)) (.cons (.cst (.bl true)) .nil))) (.cons (.tup (.cons (.cst (.bl true)) (.cons (.cst (.int 1)) .nil))) (.cons (.tup (.cons (.cst (.bl false)) (.cons (.cst (.int 1)) .nil))) (.cons (.tup (.cons (.op .idx (.v 1 (.e (.cst (.int 0)) .nil))) (.cons (.cst .non) .nil))) (.cons (.tup (.cons (.cst (.str "1")) (.cons (.cst (.int 2)) .nil))) (.cons (.tup (.cons (.var 1) (.cons (.cst (.int 1)) .nil))) (.cons (.tup (.cons (.cst (.int 1)) (.cons (.var 1) .nil))) (.cons (.tup (.cons (.var 1) (.cons (.var 1) .nil))) (.cons (.lst (.cons (.var 1) .nil)) (.cons (.tup (.cons (.op .neg (.e (.cst (.int 3)) .nil)) (.cons (.op .neg (.e (.cst (.int 6)) .nil)) .nil))) (.cons (.tup (.cons (.tup (.cons (.cst (.int 1)) .nil)) (.cons (.tup (.cons (.cst (.int 2)) .nil)) .nil))) .nil)))))))))))) .nil)))) .nil)))) .nil)))
def b__law_odd_spot : Ss := (.cons (.par [2, 3] (.e (.call 12 (.v 0 .nil)) (.e (.call 12 (.v 0 .nil)) .nil))) (.cons (.asg (.v 1) (.imm (.lst (.cons (.cst .non) (.cons (.cst (.bl true)) (.cons (.cst (.int 3)) (.cons (.cst (.str "0 0")) (.cons (.tup .nil) (.cons (.var 2) (.cons (.tup (.cons (.cst (.int 1)) (.cons (.cst (.int 2)) .nil))) (.cons (.lst (.cons (.var 2) (.cons (.var 3) .nil))) (.cons (.tup (.cons (.var 2) .nil)) (.cons (.tup (.cons (.var 2) (.cons (.var 3) (.cons (.var 2) .nil)))) (.cons (.tup (.cons (.tup (.cons (.var 2) (.cons (.var 3) .nil))) .nil)) (.cons (.tup (.cons (.var 2) (.cons (.lst (.cons (.cst (.int 1)) (.cons (.cst (.int 1)) .nil))) .nil))) (.cons (.tup (.cons (.lst (.cons (.cst (.int 0)) (.cons (.cst (.int 1)) .nil))) (.cons (.var 3) .nil))) (.cons (.tup (.cons (.cst (.str "0")) (.cons (.cst (.str "1")) .nil))) (.cons (.tup (.cons (.var 2) (.cons (.cst .non) .nil))) .nil)))))))))))))))))) (.cons (.ret (.call 11 (.v 0 (.e (.imm (.op .add (.v 1 (.e (.lst (.cons (.tup (.cons (.var 2) (.cons (.call 13 (.v 0 .nil)) .nil))) (.cons (.tup (.cons (.call 13 (.v 0 .nil)) (.cons (.var 3) .nil))) (.cons (.tup (.cons (.tup (.cons (.cst (.bl true)) (.cons (.cst (.int 1)) .nil))) (.cons (.tup (.cons (.cst (.int 0)) (.cons (.cst (.int 1)) .nil))) .nil))) (.cons (.tup (.cons (.tup (.cons (.cst (.int 0)) (.cons (.cst (.int 1)) .nil))) (.cons (.tup (.cons (.cst (.int 1)) (.cons (.cst (.bl true)) .nil))) .nil))) (.cons (.lst .nil) (.cons (.lst (.cons (.var 2) .nil)) (.cons (.tup (.cons (.tup (.cons (.var 2) (.cons (.var 3) .nil))) (.cons (.tup (.cons (.var 3) (.cons (.var 2) .nil))) .nil))) .nil)))))))) .nil)))) .nil)))) .nil)))
def b__law_is_figures : Ss := (.cons (.ife (.or_ (.t (.op .eq (.v 0 (.e (.cst (.str "")) .nil)))) (.not_ (.t (.op .all (.e (.comp [1] (.v 1) (.chars (.var 0)) .tt (.op .inS (.v 1 (.e (.cst (.str "0123456789")) .nil)))) .nil))))) (.cons (.ret (.cst (.bl false))) .nil) .nil) (.cons (.ret (.or_ (.op .eq (.v 0 (.e (.cst (.str "0")) .nil))) (.op .ne (.e (.op .idx (.v 0 (.e (.cst (.int 0)) .nil))) (.e (.cst (.str "0")) .nil))))) .nil))
def b__law_read : Ss := (.cons (.ife (.not_ (.t (.op (.isi [.str]) (.v 0 .nil)))) (.cons (.ret (.cst .non)) .nil) .nil) (.cons (.asg (.vs [3, 4, 5]) (.op .part (.v 0 (.e (.cst (.str "/")) .nil)))) (.cons (.asg (.v 1) (.ife (.t (.op .eq (.e (.op (.slcS false true) (.v 3 (.n (.cst (.int 1)) .nil))) (.e (.cst (.str "-")) .nil)))) (.op (.slcS true false) (.v 3 (.n (.cst (.int 1)) .nil))) (.var 3))) (.cons (.ife (.or_ (.not_ (.t (.call 14 (.v 1 .nil)))) (.t (.op .eq (.v 3 (.e (.cst (.str "-0")) .nil))))) (.cons (.ret (.cst .non)) .nil) .nil) (.cons (.asg (.v 2) (.op .mul (.e (.op .toIntS (.v 1 .nil)) (.e (.ife (.t (.op .eq (.e (.op (.slcS false true) (.v 3 (.n (.cst (.int 1)) .nil))) (.e (.cst (.str "-")) .nil)))) (.op .neg (.e (.cst (.int 1)) .nil)) (.cst (.int 1))) .nil)))) (.cons (.ife (.t (.op .eq (.v 4 (.e (.cst (.str "")) .nil)))) (.cons (.ret (.tup (.cons (.var 2) (.cons (.cst (.int 1)) .nil)))) .nil) .nil) (.cons (.ife (.or_ (.not_ (.t (.call 14 (.v 5 .nil)))) (.or_ (.t (.op .lt (.e (.op .toIntS (.v 5 .nil)) (.e (.cst (.int 2)) .nil)))) (.t (.op .ne (.e (.call 7 (.v 2 (.e (.op .toIntS (.v 5 .nil)) .nil))) (.e (.cst (.int 1)) .nil)))))) (.cons (.ret (.cst .non)) .nil) .nil) (.cons (.ret (.tup (.cons (.var 2) (.cons (.op .toIntS (.v 5 .nil)) .nil)))) .nil))))))))
def b__law_bent : Ss := (.cons (.asg (.v 2) (.call 5 (.v 0 (.e (.op .add (.e (.op .len (.v 1 .nil)) (.e (.cst (.int 1)) .nil))) .nil)))) (.cons (.asg (.v 3) (.call 11 (.v 0 (.e (.imm (.lst (.cons (.cst (.str "")) (.cons (.cst (.str "-")) (.cons (.cst (.str "0")) (.cons (.cst (.str "/")) (.cons (.cst (.str " ")) (.cons (.cst (.str "+")) (.cons (.cst (.str "1")) (.cons (.cst (.str "7")) (.cons (.cst (.str "/2")) (.cons (.cst (.str "a")) (.cons (.cst (.str "\n")) (.cons (.cst (.str ".")) (.cons (.cst (.str "_")) (.cons (.cst (.str "00")) (.cons (.cst (.str "/1")) .nil))))))))))))))))) .nil)))) (.cons (.ret (.op .add (.e (.op .add (.e (.op (.slcS false true) (.v 1 (.n (.var 2) .nil))) (.v 3 .nil))) (.e (.op (.slcS true false) (.v 1 (.n (.op .add (.v 2 (.e (.call 5 (.v 0 (.e (.cst (.int 2)) .nil))) .nil))) .nil))) .nil)))) .nil)))
def b__law_written : Ss := (.cons (.asg (.v 1) (.imm (.lst (.cons (.cst (.str "2/4")) (.cons (.cst (.str "1/1")) (.cons (.cst (.str "0/1")) (.cons (.cst (.str "0/3")) (.cons (.cst (.str "-0")) (.cons (.cst (.str "01")) (.cons (.cst (.str "1/02")) (.cons (.cst (.str "--1")) (.cons (.cst (.str "1/-2")) (.cons (.cst (.str "1/0")) (.cons (.cst (.str "/2")) (.cons (.cst (.str "1/")) (.cons (.cst (.str "1//2")) (.cons (.cst (.str "1/2/3")) (.cons (.cst (.str "")) (.cons (.cst (.str " ")) (.cons (.cst (.str "1 ")) (.cons (.cst (.str " 1")) (.cons (.cst (.str "1.5")) .nil)))))))))))))))))))))) (.cons (.asg (.v 2) (.imm (.lst (.cons (.cst (.str "+1")) (.cons (.cst (.str "1_0")) (.cons (.cst (.str "1/1_0")) (.cons (.cst (.str "-1/2")) (.cons (.cst (.str "0")) (.cons (.cst (.str "-")) (.cons (.cst (.str "1/2\n")) (.cons (.cst (.str "00")) (.cons (.cst (.str "-01")) (.cons (.cst (.str "1/2 ")) (.cons (.cst (.str "-0/2")) (.cons (.cst (.str "6/-4")) (.cons (.cst (.str "1 / 2")) (.cons (.cst (.str "None")) (.cons (.cst (.str "(1, 2)")) (.cons (.cst (.str "1e2")) (.cons (.cst (.str "-/2")) .nil)))))))))))))))))))) (.cons (.ret (.call 11 (.v 0 (.e (.imm (.op .add (.e (.op .add (.v 1 (.v 2 .nil))) (.e (.lst (.cons (.op .rep (.e (.cst (.str "1")) (.e (.cst (.int 40)) .nil))) (.cons (.op .add (.e (.op .add (.e (.op .add (.e (.cst (.str "-")) (.e (.op .rep (.e (.cst (.str "9")) (.e (.cst (.int 30)) .nil))) .nil))) (.e (.cst (.str "/")) .nil))) (.e (.op .rep (.e (.cst (.str "1")) (.e (.cst (.int 20)) .nil))) .nil))) (.cons (.op .add (.e (.op .add (.e (.op .add (.e (.cst (.str "-")) (.e (.op .rep (.e (.cst (.str "8")) (.e (.cst (.int 21)) .nil))) .nil))) (.e (.cst (.str "/")) .nil))) (.e (.op .rep (.e (.cst (.str "3")) (.e (.cst (.int 31)) .nil))) .nil))) (.cons (.op .rep (.e (.cst (.str "7")) (.e (.cst (.int 200)) .nil))) (.cons (.cst (.str "10/9")) (.cons (.cst (.str "-12/35")) .nil))))))) .nil)))) .nil)))) .nil)))
def b__law_read_so : Ss := (.cons (.asg (.v 1) (.call 17 (.v 0 .nil))) (.cons (.ret (.call 6 (.e (.imm (.lst (.cons (.call 16 (.v 0 .nil)) (.cons (.call 15 (.v 0 .nil)) .nil)))) (.e (.imm (.lst (.cons (.var 1) (.cons (.var 1) .nil)))) .nil)))) .nil))
def b_law : Ss := (.cons (.asg (.v 1) (.call 33 (.v 0 .nil))) (.cons (.for_ (.v 2) (.range (.e (.cst (.int 6)) .nil)) (.cons (.par [7, 8] (.e (.call 32 (.v 1 .nil)) (.e (.call 32 (.v 1 .nil)) .nil))) (.cons (.asg (.v 3) (.call 30 (.v 7 .nil))) (.cons (.ife (.not_ (.t (.call 6 (.e (.imm (.lst (.cons (.call 27 (.v 7 .nil)) (.cons (.call 31 (.v 8 .nil)) (.cons (.call 16 (.v 3 .nil)) .nil))))) (.e (.imm (.lst (.cons (.var 3) (.cons (.call 30 (.v 8 .nil)) (.cons (.var 7) .nil))))) .nil))))) (.cons (.ret (.cst (.bl false))) .nil) .nil) (.cons (.asg (.v 4) (.call 28 (.e (.call 29 (.v 7 (.v 8 .nil))) (.v 8 .nil)))) (.cons (.ife (.not_ (.t (.call 6 (.e (.imm (.lst (.cons (.call 1 (.v 4 .nil)) (.cons (.call 15 (.e (.call 27 (.v 4 .nil)) .nil)) .nil)))) (.e (.imm (.lst (.cons (.cst (.bl true)) (.cons (.var 4) .nil)))) .nil))))) (.cons (.ret (.cst (.bl false))) .nil) .nil) (.cons (.for_ (.v 5) (.seq (.lst (.cons (.call 25 (.v 1 (.v 3 .nil))) (.cons (.call 25 (.v 1 (.e (.call 25 (.v 1 (.v 3 .nil))) .nil))) (.cons (.call 24 (.v 1 .nil)) (.cons (.var 7) (.cons (.cst .non) (.cons (.call 13 (.v 1 .nil)) .nil)))))))) (.cons (.ife (.not_ (.t (.call 26 (.v 5 .nil)))) (.cons (.ret (.cst (.bl false))) .nil) .nil) .nil)) (.cons (.for_ (.v 6) (.seq (.lst (.cons (.var 7) (.cons (.call 13 (.v 1 .nil)) (.cons (.call 13 (.v 1 .nil)) (.cons (.tup (.cons (.tup (.cons (.var 7) (.cons (.cst (.int 1)) .nil))) (.cons (.cst (.int 1)) .nil))) (.cons (.tup (.cons (.var 7) (.cons (.var 8) .nil))) (.cons (.lst (.cons (.var 7) .nil)) (.cons (.call 18 .nil) (.cons (.tup (.cons (.op .mul (.e (.cst (.int 2)) (.e (.op .fdiv (.e (.op .idx (.v 7 (.e (.cst (.int 0)) .nil))) (.e (.cst (.int 9)) .nil))) .nil))) (.cons (.cst (.int 2)) .nil))) .nil)))))))))) (.cons (.ife (.not_ (.t (.call 6 (.e (.imm (.lst (.cons (.call 1 (.v 6 .nil)) (.cons (.call 23 (.v 6 .nil)) (.cons (.call 22 (.e (.tup (.cons (.var 6) (.cons (.var 8) .nil))) .nil)) (.cons (.call 22 (.e (.tup (.cons (.var 7) (.cons (.var 6) .nil))) .nil)) .nil)))))) (.e (.imm (.lst (.cons (.call 9 (.v 6 .nil)) (.cons (.call 9 (.v 6 .nil)) (.cons (.call 9 (.v 6 .nil)) (.cons (.call 9 (.v 6 .nil)) .nil)))))) .nil))))) (.cons (.ret (.cst (.bl false))) .nil) .nil) .nil)) (.cons (.for_ (.v 6) (.seq (.lst (.cons (.tup (.cons (.var 7) (.cons (.var 8) .nil))) (.cons (.tup (.cons (.var 4) (.cons (.var 4) .nil))) (.cons (.call 19 (.v 1 .nil)) (.cons (.call 19 (.v 1 .nil)) (.cons (.lst (.cons (.var 7) (.cons (.var 8) .nil))) (.cons (.tup (.cons (.var 7) (.cons (.var 8) (.cons (.var 8) .nil)))) (.cons (.tup (.cons (.tup (.cons (.var 7) (.cons (.var 8) .nil))) (.cons (.tup (.cons (.var 7) (.cons (.var 8) .nil))) .nil))) (.cons (.var 7) (.cons (.call 18 .nil) (.cons (.var 3) .nil)))))))))))) (.cons (.ife (.not_ (.t (.call 6 (.e (.imm (.lst (.cons (.call 22 (.v 6 .nil)) (.cons (.call 21 (.v 6 .nil)) .nil)))) (.e (.imm (.lst (.cons (.call 20 (.v 6 .nil)) (.cons (.call 20 (.v 6 .nil)) .nil)))) .nil))))) (.cons (.ret (.cst (.bl false))) .nil) .nil) .nil)) .nil))))))))) (.cons (.ret (.cst (.bl true))) .nil)))
end Lw
end Ev
set_option Elab.async false
set_option linter.all false
set_option autoImplicit false
set_option maxRecDepth 100000
set_option maxHeartbeats 1000000
/-! rows for walking through a body -/
namespace Ev
open PySem
section
variable {P : Val → Prop} {i j : Int} {a b c z : Str} {xs ys : List D} {x y d : D} {ρ : Rho} {v : Val} {G : Glob} {Q : Q1} {Xx : X1} {n : Nat} {bb : Bool} {f : Fl}
theorem o_add : opP .add [.int i, .int j] P = P (.imm, .int (i + j)) := rfl
theorem o_adds : opP .add [.str a, .str b] P = (a.length + b.length ≤ line ∧ P (.imm, .str (a ++ b))) := rfl
theorem o_addt : opP .add [.tup xs, .tup ys] P = (xs.length + ys.length ≤ line ∧ P (.imm, .tup (xs ++ ys))) := rfl
theorem o_addl : opP .add [.lst xs, .lst ys] P = (xs.length + ys.length ≤ line ∧ P (.own, .lst (xs ++ ys))) := rfl
theorem o_sub : opP .sub [.int i, .int j] P = P (.imm, .int (i - j)) := rfl
theorem o_mul : opP .mul [.int i, .int j] P = (MulOk i j ∧ P (.imm, .int (i * j))) := rfl
theorem o_fdiv : opP .fdiv [.int i, .int j] P = (j ≠ 0 ∧ j.natAbs.log2 < 9000 ∧ P (.imm, .int (i.fdiv j))) := rfl
theorem o_mod : opP .mod [.int i, .int j] P = (j ≠ 0 ∧ P (.imm, .int (i.fmod j))) := rfl
theorem o_pow : opP .pow [.int i, .int j] P = (0 ≤ j ∧ j ≤ 1000000 ∧ i.natAbs < 2 ^ 64 ∧ P (.imm, .int (i ^ j.toNat))) := rfl
theorem o_neg : opP .neg [.int i] P = P (.imm, .int (-i)) := rfl
theorem o_eq : opP .eq [x, y] P = (lay 60 x = true ∧ lay 60 y = true ∧ P (.imm, .bl (eqD x y))) := rfl
theorem o_ne : opP .ne [x, y] P = (lay 60 x = true ∧ lay 60 y = true ∧ P (.imm, .bl (!eqD x y))) := rfl
theorem o_lt : opP .lt [.int i, .int j] P = P (.imm, .bl (decide (i < j))) := rfl
theorem o_le : opP .le [.int i, .int j] P = P (.imm, .bl (decide (i ≤ j))) := rfl
theorem o_gt : opP .gt [.int i, .int j] P = P (.imm, .bl (decide (j < i))) := rfl
theorem o_ge : opP .ge [.int i, .int j] P = P (.imm, .bl (decide (j ≤ i))) := rfl
theorem o_isN : opP .isN [d] P = P (.imm, .bl (match d with | .non => true | _ => false)) := by cases d <;> rfl
theorem o_notN : opP .notN [d] P = P (.imm, .bl (match d with | .non => false | _ => true)) := by cases d <;> rfl
theorem o_idxl : opP .idx [.lst xs, .int i] P = ∃ d, atI xs i = some d ∧ P (.imm, d) := rfl
theorem o_idxf : opP .idx [.frz xs, .int i] P = ∃ d, atI xs i = some d ∧ P (.imm, d) := rfl
theorem o_idxt : opP .idx [.tup xs, .int i] P = ∃ d, atI xs i = some d ∧ P (.imm, d) := rfl
theorem o_idxs : opP .idx [.str z, .int i] P = (z.length ≤ line ∧ ∃ c, atI z.cps.toList i = some c ∧ P (.imm, .str ⟨#[c]⟩)) := rfl
theorem o_lenl : opP .len [.lst xs] P = P (.imm, .int xs.length) := rfl
theorem o_lenf : opP .len [.frz xs] P = P (.imm, .int xs.length) := rfl
theorem o_lent : opP .len [.tup xs] P = P (.imm, .int xs.length) := rfl
theorem o_lens : opP .len [.str z] P = (z.length ≤ line ∧ P (.imm, .int z.length)) := rfl
theorem o_abs : opP .abs [.int i] P = P (.imm, .int i.natAbs) := rfl
theorem o_toInt : opP .toInt [.int i] P = P (.imm, .int i) := rfl
theorem o_isi {ts : List Ty} : opP (.isi ts) [d] P = P (.imm, .bl (ts.any fun t => hasTy t d)) := by cases d <;> rfl
theorem o_gcd : opP .gcd [.int i, .int j] P = P (.imm, .int ((Nat.gcd i.natAbs j.natAbs : Nat) : Int)) := rfl
theorem o_all : opP .all [.lst xs] P = ∃ bs, bools? xs = some bs ∧ P (.imm, .bl (bs.all id)) := rfl
theorem o_toList : opP .toList [.lst xs] P = P (.own, .lst xs) := rfl
theorem r_at0 {o : Option Val} {r : Rho} : Rho.at (o :: r) 0 = o := rfl
theorem r_atS {o : Option Val} {r : Rho} {n : Nat} : Rho.at (o :: r) (n + 1) = Rho.at r n := rfl
theorem r_put0 {o w : Option Val} {r : Rho} : Rho.put (o :: r) 0 w = w :: r := rfl
theorem r_putS {o w : Option Val} {r : Rho} {n : Nat} : Rho.put (o :: r) (n + 1) w = o :: Rho.put r n w := rfl
/-! operands -/
theorem wo_nil {K : List Opd → Rho → Prop} : wpOs G .nil ρ K Xx = K [] ρ := rfl
theorem wo_v {K : List Opd → Rho → Prop} {i : Nat} {r : Os} (h : ρ.at i = some v) : wpOs G (.v i r) ρ K Xx = wpOs G r ρ (fun l ρ' => K (.v i :: l) ρ') Xx := by
  show (match ρ.at i with | none => False | some _ => wpOs G r ρ (fun l ρ' => K (.v i :: l) ρ') Xx) = _
  rw [h]
theorem ex_some {α : Type} {x : α} {p : α → Prop} : (∃ y, some x = some y ∧ p y) = p x := by
  apply propext
  exact ⟨fun ⟨y, e, h⟩ => by cases e; exact h, fun h => ⟨x, rfl, h⟩⟩
theorem res_nil : resolve ρ [] = some [] := rfl
theorem res_x {r : List Opd} {ds : List D} (h : resolve ρ r = some ds) : resolve ρ (.x v :: r) = some (v.2 :: ds) := by
  show (match some v.2, resolve ρ r with | some d, some ds => some (d :: ds) | _, _ => none) = _
  rw [h]
theorem res_v {r : List Opd} {ds : List D} {i : Nat} (h0 : ρ.at i = some v) (h : resolve ρ r = some ds) : resolve ρ (.v i :: r) = some (v.2 :: ds) := by
  have e : Opd.get ρ (.v i) = some v.2 := by
    show (ρ.at i).map (·.2) = _
    rw [h0]
    rfl
  unfold resolve
  rw [e, h]
theorem lk_imm {i : Nat} (h : ρ.at i = some (.imm, d)) : ρ.leak i = ρ := by
  unfold Rho.leak
  rw [h]
theorem a_0 {α : Type} {x0 : α} {r : List α} : atI (x0 :: r) 0 = some x0 := by
  unfold atI ixN
  rw [if_pos (by decide), if_pos (by simp only [List.length_cons]; omega)]
  rfl
theorem i_0 {α : Type} {x0 : α} {r : List α} : ixN (x0 :: r).length 0 = some 0 := by
  unfold ixN
  rw [if_pos (by decide), if_pos (by simp only [List.length_cons]; omega)]
  rfl
theorem a_1 {α : Type} {x0 x1 : α} {r : List α} : atI (x0 :: x1 :: r) 1 = some x1 := by
  unfold atI ixN
  rw [if_pos (by decide), if_pos (by simp only [List.length_cons]; omega)]
  rfl
theorem i_1 {α : Type} {x0 x1 : α} {r : List α} : ixN (x0 :: x1 :: r).length 1 = some 1 := by
  unfold ixN
  rw [if_pos (by decide), if_pos (by simp only [List.length_cons]; omega)]
  rfl
theorem a_2 {α : Type} {x0 x1 x2 : α} {r : List α} : atI (x0 :: x1 :: x2 :: r) 2 = some x2 := by
  unfold atI ixN
  rw [if_pos (by decide), if_pos (by simp only [List.length_cons]; omega)]
  rfl
theorem i_2 {α : Type} {x0 x1 x2 : α} {r : List α} : ixN (x0 :: x1 :: x2 :: r).length 2 = some 2 := by
  unfold ixN
  rw [if_pos (by decide), if_pos (by simp only [List.length_cons]; omega)]
  rfl
theorem a_3 {α : Type} {x0 x1 x2 x3 : α} {r : List α} : atI (x0 :: x1 :: x2 :: x3 :: r) 3 = some x3 := by
  unfold atI ixN
  rw [if_pos (by decide), if_pos (by simp only [List.length_cons]; omega)]
  rfl
theorem i_3 {α : Type} {x0 x1 x2 x3 : α} {r : List α} : ixN (x0 :: x1 :: x2 :: x3 :: r).length 3 = some 3 := by
  unfold ixN
  rw [if_pos (by decide), if_pos (by simp only [List.length_cons]; omega)]
  rfl
theorem a_4 {α : Type} {x0 x1 x2 x3 x4 : α} {r : List α} : atI (x0 :: x1 :: x2 :: x3 :: x4 :: r) 4 = some x4 := by
  unfold atI ixN
  rw [if_pos (by decide), if_pos (by simp only [List.length_cons]; omega)]
  rfl
theorem i_4 {α : Type} {x0 x1 x2 x3 x4 : α} {r : List α} : ixN (x0 :: x1 :: x2 :: x3 :: x4 :: r).length 4 = some 4 := by
  unfold ixN
  rw [if_pos (by decide), if_pos (by simp only [List.length_cons]; omega)]
  rfl
theorem a_5 {α : Type} {x0 x1 x2 x3 x4 x5 : α} {r : List α} : atI (x0 :: x1 :: x2 :: x3 :: x4 :: x5 :: r) 5 = some x5 := by
  unfold atI ixN
  rw [if_pos (by decide), if_pos (by simp only [List.length_cons]; omega)]
  rfl
theorem i_5 {α : Type} {x0 x1 x2 x3 x4 x5 : α} {r : List α} : ixN (x0 :: x1 :: x2 :: x3 :: x4 :: x5 :: r).length 5 = some 5 := by
  unfold ixN
  rw [if_pos (by decide), if_pos (by simp only [List.length_cons]; omega)]
  rfl
theorem a_6 {α : Type} {x0 x1 x2 x3 x4 x5 x6 : α} {r : List α} : atI (x0 :: x1 :: x2 :: x3 :: x4 :: x5 :: x6 :: r) 6 = some x6 := by
  unfold atI ixN
  rw [if_pos (by decide), if_pos (by simp only [List.length_cons]; omega)]
  rfl
theorem i_6 {α : Type} {x0 x1 x2 x3 x4 x5 x6 : α} {r : List α} : ixN (x0 :: x1 :: x2 :: x3 :: x4 :: x5 :: x6 :: r).length 6 = some 6 := by
  unfold ixN
  rw [if_pos (by decide), if_pos (by simp only [List.length_cons]; omega)]
  rfl
theorem a_7 {α : Type} {x0 x1 x2 x3 x4 x5 x6 x7 : α} {r : List α} : atI (x0 :: x1 :: x2 :: x3 :: x4 :: x5 :: x6 :: x7 :: r) 7 = some x7 := by
  unfold atI ixN
  rw [if_pos (by decide), if_pos (by simp only [List.length_cons]; omega)]
  rfl
theorem i_7 {α : Type} {x0 x1 x2 x3 x4 x5 x6 x7 : α} {r : List α} : ixN (x0 :: x1 :: x2 :: x3 :: x4 :: x5 :: x6 :: x7 :: r).length 7 = some 7 := by
  unfold ixN
  rw [if_pos (by decide), if_pos (by simp only [List.length_cons]; omega)]
  rfl
theorem ex_true {p : Prop} : (∃ b : Val, some v = some b) ∧ p ↔ p := ⟨fun h => h.2, fun h => ⟨⟨v, rfl⟩, h⟩⟩
end
end Ev
set_option Elab.async false
set_option linter.all false
set_option autoImplicit false
set_option maxRecDepth 100000
set_option maxHeartbeats 1000000
namespace Ev
namespace Lw
open PySem
def fnT (R : List D → Val → Prop) : Tr := fun as Q _ => ∃ ds r, as = ds.map (fun d => ((.imm, d) : Val)) ∧ R ds r ∧ Q r as
def rCommon (ds : List D) (r : Val) : Prop := ∃ i j : Int, ds = [.int i, .int j] ∧ r = (.imm, .int (Int.gcd i j))
theorem common_ok (G : Glob) (as : List Val) (Q : Val → List Val → Prop) (X : D → List Val → Prop) (h : fnT rCommon as Q X) : runF G 2 2 b__law_common as Q X := by
  obtain ⟨ds, r, rfl, ⟨i, j, rfl, rfl⟩, q⟩ := h
  refine ⟨rfl, ?_⟩
  show wpSs G b__law_common [some (.imm, .int i), some (.imm, .int j), none, none] _
  simp only [b__law_common, wpSs, wpS, wpOs, wpE, resolve, Opd.get, r_at0, r_atS, r_put0, r_putS, Option.map_some, ex_some, o_abs, putVals, List.reverse_cons, List.reverse_nil, List.nil_append, List.cons_append]
  refine ⟨fun m ρ => ∃ x y : Nat, m = y ∧ Nat.gcd x y = Int.gcd i j ∧ ρ = [some (.imm, .int i), some (.imm, .int j), some (.imm, .int x), some (.imm, .int y)], ⟨_, _, _, rfl, rfl, rfl⟩, ?_⟩
  rintro m _ ⟨x, y, rfl, e, rfl⟩
  simp only [wpB, wpSs, wpS, wpOs, wpE, resolve, Opd.get, r_at0, r_atS, r_put0, r_putS, Option.map_some, ex_some, o_gt, o_toInt, o_mod, truthD, putVals, List.reverse_cons, List.reverse_nil, List.nil_append, List.cons_append, Rho.leak]
  by_cases c : (0 : Int) < (m : Int)
  · rw [if_pos (by simpa using c)]
    have hy : 0 < m := by omega
    refine ⟨by omega, x % m, Nat.mod_lt _ hy, m, x % m, rfl, ?_, ?_⟩
    · rw [← e, Nat.gcd_comm x m, Nat.gcd_rec m x, Nat.gcd_comm]
    · rw [Int.fmod_eq_emod_of_nonneg _ (by omega)]
      rfl
  · rw [if_neg (by simpa using c)]
    have hy : m = 0 := by omega
    subst hy
    refine ⟨_, rfl, ?_⟩
    have ex : x = Int.gcd i j := by simpa using e
    rw [ex]
    exact q
end Lw
end Ev
set_option Elab.async false
set_option linter.all false
set_option autoImplicit false
set_option maxRecDepth 100000
set_option maxHeartbeats 2000000
namespace Ev
namespace Lw
open PySem
def bagD (cells : List Int) (idx rest seed cnt : Int) : D := .lst [.lst (cells.map D.int), .int idx, .int rest, .int seed, .int cnt]
def Bag (b : D) : Prop := ∃ (cells : List Int) (idx rest seed cnt : Int), b = bagD cells idx rest seed cnt ∧ 0 ≤ idx ∧ idx ≤ cells.length ∧ 0 ≤ rest ∧ 0 ≤ seed ∧ seed < 2147483648 ∧ 0 ≤ cnt
def drawT : Tr := fun as Q _ => ∃ bag many, as = [(.par, bag), (.imm, .int many)] ∧ Bag bag ∧ 0 < many ∧ many < 2 ^ 62 ∧ ∀ d bag', Bag bag' → 0 ≤ d → d < many → Q (.imm, .int d) [(.par, bag'), (.imm, .int many)]
theorem atI_nat {α : Type} (xs : List α) (n : Nat) : atI xs (n : Int) = xs[n]? := by
  unfold atI ixN
  by_cases c : n < xs.length
  · rw [if_pos (by omega), if_pos (by omega)]
    rfl
  · rw [if_pos (by omega), if_neg (by omega)]
    have : xs[n]? = none := List.getElem?_eq_none_iff.mpr (by omega)
    rw [this]
    rfl
theorem draw_ok (G : Glob) (as : List Val) (Q : Val → List Val → Prop) (X : D → List Val → Prop) (h : drawT as Q X) : runF G 2 3 b__law_draw as Q X := by
  obtain ⟨bag, many, rfl, ⟨cells, idx, rest, seed, cnt, rfl, h1, h2, h3, h4, h5, h6⟩, hm, hm2, q⟩ := h
  refine ⟨rfl, ?_⟩
  show wpSs G b__law_draw [some (.par, bagD cells idx rest seed cnt), some (.imm, .int many), none, none, none] _
  have hcell : idx < cells.length → ∃ c : Int, atI (cells.map D.int) idx = some (.int c) := fun h => by
    obtain ⟨n, rfl⟩ : ∃ n : Nat, idx = n := ⟨idx.toNat, by omega⟩
    rw [atI_nat, List.getElem?_map]
    have : n < cells.length := by omega
    rw [List.getElem?_eq_getElem this]
    exact ⟨_, rfl⟩
  have fin : ∀ (idx' rest' seed' cnt' d : Int), 0 ≤ idx' → idx' ≤ cells.length → 0 ≤ rest' → 0 ≤ seed' → seed' < 2147483648 → 0 ≤ cnt' → 0 ≤ d → d < many → Q (.imm, .int d) [(.par, bagD cells idx' rest' seed' cnt'), (.imm, .int many)] :=
    fun idx' rest' seed' cnt' d a1 a2 a3 a4 a5 a6 a7 a8 => q d _ ⟨cells, idx', rest', seed', cnt', rfl, a1, a2, a3, a4, a5, a6⟩ a7 a8
  have md : ∀ (x m : Int), 0 < m → 0 ≤ x.fmod m ∧ x.fmod m < m := fun x m h => by
    rw [Int.fmod_eq_emod_of_nonneg _ (by omega)]
    exact ⟨Int.emod_nonneg _ (by omega), Int.emod_lt_of_pos _ h⟩
  have dv : ∀ (x m : Int), 0 ≤ x → 0 < m → 0 ≤ x.fdiv m := fun x m h1 h2 => by
    rw [Int.fdiv_eq_ediv_of_nonneg _ (by omega)]
    exact Int.ediv_nonneg h1 (by omega)
  have mb := fun x => md x 2147483423 (by omega)
  have mm := fun x => md x many hm
  have hml : many.natAbs.log2 < 9000 := by
    have : many.natAbs < 2 ^ 62 := by omega
    have := (Nat.log2_lt (n := many.natAbs) (k := 62) (by omega)).mpr this
    omega
  have sm : ∀ (x y : Int), y.natAbs < 2 ^ 64 → MulOk x y := fun x y h => .inr (.inr h)
  have l67 : (Int.natAbs 67).log2 < 9000 := by
    have := (Nat.log2_lt (n := Int.natAbs 67) (k := 62) (by decide)).mpr (by decide)
    omega
  have nb : ∀ x : Int, (x.fmod 2147483423).natAbs < 2 ^ 64 := fun x => by
    have := mb x
    omega
  have hr0 : rest ≠ 0 → (rest == 0) = false := fun h => by simpa using h
  by_cases hr : rest = 0
  · subst hr
    by_cases hi : idx < cells.length
    · obtain ⟨c, hc⟩ := hcell hi
      by_cases hb : (10 : Int) ^ Int.toNat 18 ≤ (c.natAbs : Int)
      · have hp : (0 : Int) < (c.natAbs : Int) := Int.lt_of_lt_of_le (by decide) hb
        simp only [b__law_draw, bagD, wpSs, wpS, wpOs, wpE, wpB, resolve, Opd.get, r_at0, r_atS, r_put0, r_putS, Option.map_some, ex_some, o_add, o_idxl, o_eq, o_lenl, o_lt, o_gt, o_ge, o_pow, o_abs, o_mod, o_mul, o_fdiv, o_toInt, a_0, a_1, a_2, a_3, a_4, i_0, i_1, i_2, i_3, i_4, List.set_cons_zero, List.set_cons_succ, ex_true, ownF, eqD, lay, true_and, truthD, Rho.leak, asgTg, List.length_map, hc, beq_self_eq_true, if_true, hi, decide_true, hb, hp]
        refine ⟨by omega, by omega, by decide, by omega, by omega, hml, _, rfl, ?_⟩
        exact fin _ _ _ _ _ (by omega) (by omega) (dv _ _ (by omega) hm) h4 h5 (by omega) (mm _).1 (mm _).2
      · simp only [b__law_draw, bagD, wpSs, wpS, wpOs, wpE, wpB, resolve, Opd.get, r_at0, r_atS, r_put0, r_putS, Option.map_some, ex_some, o_add, o_idxl, o_eq, o_lenl, o_lt, o_gt, o_ge, o_pow, o_abs, o_mod, o_mul, o_fdiv, o_toInt, a_0, a_1, a_2, a_3, a_4, i_0, i_1, i_2, i_3, i_4, List.set_cons_zero, List.set_cons_succ, ex_true, ownF, eqD, lay, true_and, truthD, Rho.leak, asgTg, List.length_map, hc, beq_self_eq_true, if_true, hi, decide_true, hb, decide_false, Bool.false_eq_true, if_false, Int.lt_irrefl]
        refine ⟨by omega, by omega, by decide, sm _ _ (by decide), by omega, sm _ _ (by decide), by omega, by omega, by omega, nb _, sm _ _ (by decide), sm _ _ (by decide), by omega, by omega, l67, by omega, sm _ _ (by decide), by omega, _, rfl, ?_⟩
        exact fin _ _ _ _ _ (by omega) (by omega) (by omega) (mb _).1 (Int.lt_trans (mb _).2 (by decide)) (by omega) (mm _).1 (mm _).2
    · simp only [b__law_draw, bagD, wpSs, wpS, wpOs, wpE, wpB, resolve, Opd.get, r_at0, r_atS, r_put0, r_putS, Option.map_some, ex_some, o_add, o_idxl, o_eq, o_lenl, o_lt, o_gt, o_ge, o_pow, o_abs, o_mod, o_mul, o_fdiv, o_toInt, a_0, a_1, a_2, a_3, a_4, i_0, i_1, i_2, i_3, i_4, List.set_cons_zero, List.set_cons_succ, ex_true, ownF, eqD, lay, true_and, truthD, Rho.leak, asgTg, List.length_map, beq_self_eq_true, if_true, hi, decide_true, decide_false, Bool.false_eq_true, if_false, Int.lt_irrefl]
      refine ⟨by omega, by omega, by omega, sm _ _ (by decide), sm _ _ (by decide), by omega, by omega, l67, by omega, sm _ _ (by decide), by omega, _, rfl, ?_⟩
      exact fin _ _ _ _ _ h1 h2 (by omega) (mb _).1 (Int.lt_trans (mb _).2 (by decide)) (by omega) (mm _).1 (mm _).2
  · have hp : 0 < rest := by omega
    simp only [b__law_draw, bagD, wpSs, wpS, wpOs, wpE, wpB, resolve, Opd.get, r_at0, r_atS, r_put0, r_putS, Option.map_some, ex_some, o_add, o_idxl, o_eq, o_lenl, o_lt, o_gt, o_ge, o_pow, o_abs, o_mod, o_mul, o_fdiv, o_toInt, a_0, a_1, a_2, a_3, a_4, i_0, i_1, i_2, i_3, i_4, List.set_cons_zero, List.set_cons_succ, ex_true, ownF, eqD, lay, true_and, truthD, Rho.leak, asgTg, List.length_map, hr0 hr, decide_true, decide_false, Bool.false_eq_true, if_false, if_true, hp]
    refine ⟨by omega, by omega, hml, _, rfl, ?_⟩
    exact fin _ _ _ _ _ h1 h2 (dv _ _ (by omega) hm) h4 h5 (by omega) (mm _).1 (mm _).2
end Lw
end Ev
set_option Elab.async false
set_option linter.all false
set_option autoImplicit false
set_option maxRecDepth 100000
set_option maxHeartbeats 1000000
/-! fractions: plain law, no program in sight -/
namespace Ev
open PySem
/-- a fraction as the program writes it -/
def fr (x : Rat) : D := .tup [.int x.num, .int x.den]
theorem low_eq {p q : Int} (hq : q ≠ 0) : p.fdiv (if q < 0 then -(Int.gcd p q : Int) else (Int.gcd p q : Int)) = (Rat.divInt p q).num ∧ q.fdiv (if q < 0 then -(Int.gcd p q : Int) else (Int.gcd p q : Int)) = ((Rat.divInt p q).den : Int) := by
  have hg : (Int.gcd p q : Int) ≠ 0 := by
    have : Int.gcd p q ≠ 0 := fun h => hq (Int.gcd_eq_zero_iff.mp h).2
    omega
  rw [Rat.num_divInt, Rat.den_divInt, if_neg hq, Int.gcd_comm q p]
  obtain ⟨k, hk⟩ := Int.gcd_dvd_left (a := p) (b := q)
  obtain ⟨l, hl⟩ := Int.gcd_dvd_right (a := p) (b := q)
  generalize Int.gcd p q = g at *
  have hg1 : -(g : Int) ≠ 0 := by omega
  have gp : 0 < (g : Int) := by omega
  by_cases c : q < 0
  · rw [if_pos c, Int.sign_eq_neg_one_of_neg c]
    have e1 : p = -(g : Int) * (-k) := by rw [hk, Int.neg_mul_neg]
    have e2 : q = -(g : Int) * (-l) := by rw [hl, Int.neg_mul_neg]
    have e3 : -1 * p = (g : Int) * (-k) := by rw [hk, Int.neg_mul, Int.one_mul, Int.mul_neg]
    have e4 : q.natAbs = g * (-l).natAbs := by rw [hl, Int.natAbs_mul, Int.natAbs_neg, Int.natAbs_natCast]
    rw [e3, Int.mul_ediv_cancel_left _ hg]
    refine ⟨by rw [e1, Int.mul_fdiv_cancel_left _ hg1], ?_⟩
    rw [e4, Nat.mul_div_cancel_left _ (by omega), e2, Int.mul_fdiv_cancel_left _ hg1]
    have : l < 0 := by
      by_cases h : l < 0
      · exact h
      · have := Int.mul_nonneg (Int.le_of_lt gp) (show 0 ≤ l by omega)
        omega
    omega
  · rw [if_neg c, Int.sign_eq_one_of_pos (by omega), Int.one_mul]
    have e4 : q.natAbs = g * l.natAbs := by rw [hl, Int.natAbs_mul, Int.natAbs_natCast]
    rw [e4, Nat.mul_div_cancel_left _ (by omega)]
    refine ⟨by rw [hk, Int.mul_fdiv_cancel_left _ hg, Int.mul_ediv_cancel_left _ hg], ?_⟩
    rw [hl, Int.mul_fdiv_cancel_left _ hg]
    have : 0 ≤ l := by
      by_cases h : l < 0
      · have := Int.mul_neg_of_pos_of_neg gp h
        omega
      · omega
    omega
theorem fr_low {p q : Int} (hq : q ≠ 0) : D.tup [.int (p.fdiv (if q < 0 then -(Int.gcd p q : Int) else (Int.gcd p q : Int))), .int (q.fdiv (if q < 0 then -(Int.gcd p q : Int) else (Int.gcd p q : Int)))] = fr (Rat.divInt p q) := by
  obtain ⟨h1, h2⟩ := low_eq (p := p) hq
  rw [h1, h2]
  rfl
theorem gcd_log {p q : Int} {k : Nat} (hq : q ≠ 0) (h : q.natAbs.log2 < k) : (Int.gcd p q : Int).natAbs.log2 < k := by
  have h1 : Int.gcd p q ≤ q.natAbs := Nat.le_of_dvd (by omega) (Nat.gcd_dvd_right ..)
  have h0 : Int.gcd p q ≠ 0 := fun h => hq (Int.gcd_eq_zero_iff.mp h).2
  rw [Int.natAbs_natCast]
  have h2 : q.natAbs < 2 ^ (q.natAbs.log2 + 1) := Nat.lt_log2_self
  have h3 : Int.gcd p q < 2 ^ (q.natAbs.log2 + 1) := Nat.lt_of_le_of_lt h1 h2
  have h4 := (Nat.log2_lt h0).mpr h3
  omega
theorem add_eq (x y : Rat) : Rat.divInt (x.num * y.den + y.num * x.den) ((x.den : Int) * y.den) = x + y := by
  have hx : (x.den : Int) ≠ 0 := by have := x.den_nz; omega
  have hy : (y.den : Int) ≠ 0 := by have := y.den_nz; omega
  rw [← Rat.divInt_add_divInt x.num y.num hx hy, Rat.num_divInt_den, Rat.num_divInt_den]
theorem mul_eq (x y : Rat) : Rat.divInt (x.num * y.num) ((x.den : Int) * y.den) = x * y := by
  rw [← Rat.divInt_mul_divInt, Rat.num_divInt_den, Rat.num_divInt_den]
theorem divInt_one (n : Int) : (Rat.divInt n 1).num = n ∧ (Rat.divInt n 1).den = 1 := by
  rw [Rat.num_divInt, Rat.den_divInt, if_neg (by decide)]
  simp
theorem add_int {x y : Rat} (hx : x.den = 1) (hy : y.den = 1) : fr (x + y) = .tup [.int (x.num + y.num), .int 1] := by
  rw [← add_eq x y, hx, hy]
  have h := divInt_one (x.num * (1 : Nat) + y.num * (1 : Nat))
  unfold fr
  have e : ((1 : Nat) : Int) * ((1 : Nat) : Int) = 1 := rfl
  rw [e, h.1, h.2]
  simp
theorem mul_int' {x y : Rat} (hx : x.den = 1) (hy : y.den = 1) : fr (x * y) = .tup [.int (x.num * y.num), .int 1] := by
  rw [← mul_eq x y, hx, hy]
  have h := divInt_one (x.num * y.num)
  unfold fr
  have e : ((1 : Nat) : Int) * ((1 : Nat) : Int) = 1 := rfl
  rw [e, h.1, h.2]
  simp
/-- numbers of at most k binary places -/
def Sm (k : Nat) (x : Rat) : Prop := x.num.natAbs < 2 ^ k ∧ x.den < 2 ^ k
theorem log_lt {n k : Nat} (hk : 0 < k) (h : n < 2 ^ k) : n.log2 < k := by
  by_cases c : n = 0
  · subst c; simpa using hk
  · exact (Nat.log2_lt c).mpr h
theorem mul_ok {i j : Int} {k : Nat} (hk : k < 400000) (h1 : i.natAbs < 2 ^ k) (h2 : j.natAbs < 2 ^ k) (h0 : 0 < k) : MulOk i j := by
  have a := log_lt h0 h1
  have b := log_lt h0 h2
  exact .inl (by omega)
end Ev
set_option Elab.async false
set_option linter.all false
set_option autoImplicit false
set_option maxRecDepth 100000
set_option maxHeartbeats 1000000
namespace Ev
namespace Lw
open PySem
theorem t_common {i j : Int} {Q : Val → List Val → Prop} {X : D → List Val → Prop} : fnT rCommon [(.imm, .int i), (.imm, .int j)] Q X = Q (.imm, .int (Int.gcd i j)) [(.imm, .int i), (.imm, .int j)] := by
  apply propext
  constructor
  · rintro ⟨ds, r, e, ⟨i', j', rfl, rfl⟩, q⟩
    simp only [List.map_cons, List.map_nil, List.cons.injEq, Prod.mk.injEq, D.int.injEq, true_and, and_true] at e
    obtain ⟨rfl, rfl⟩ := e
    exact q
  · intro q
    exact ⟨[.int i, .int j], _, rfl, ⟨i, j, rfl, rfl⟩, q⟩
def rLow (ds : List D) (r : Val) : Prop := ∃ p q : Int, ds = [.int p, .int q] ∧ q ≠ 0 ∧ q.natAbs.log2 < 8000 ∧ r = (.imm, fr (Rat.divInt p q))
theorem low_ok (G : Glob) (h7 : G.fn 7 = fnT rCommon) (as : List Val) (Q : Val → List Val → Prop) (X : D → List Val → Prop) (h : fnT rLow as Q X) : runF G 2 1 b__law_low as Q X := by
  obtain ⟨ds, r, rfl, ⟨p, q, rfl, hq, hl, rfl⟩, hQ⟩ := h
  refine ⟨rfl, ?_⟩
  show wpSs G b__law_low [some (.imm, .int p), some (.imm, .int q), none] _
  rw [← fr_low hq] at hQ
  have hg := gcd_log (p := p) hq (Nat.lt_trans hl (by decide : 8000 < 9000))
  have h0 : (Int.gcd p q : Int) ≠ 0 := by
    have : Int.gcd p q ≠ 0 := fun h => hq (Int.gcd_eq_zero_iff.mp h).2
    omega
  by_cases c : q < 0
  · rw [if_pos c] at hQ
    simp only [b__law_low, wpSs, wpS, wpOs, wpE, wpB, wpTs, resolve, Opd.get, argsOf, Opd.arg, argF, ownIx, nodupB, putOuts, h7, t_common, r_at0, r_atS, r_put0, r_putS, Option.map_some, ex_some, o_sub, o_fdiv, o_lt, truthD, asgTg, Rho.leak, true_and, c, decide_true, if_true]
    refine ⟨by omega, by rw [Int.zero_sub, Int.natAbs_neg]; exact hg, by omega, by rw [Int.zero_sub, Int.natAbs_neg]; exact hg, _, rfl, ?_⟩
    rw [Int.zero_sub]
    exact hQ
  · rw [if_neg c] at hQ
    simp only [b__law_low, wpSs, wpS, wpOs, wpE, wpB, wpTs, resolve, Opd.get, argsOf, Opd.arg, argF, ownIx, nodupB, putOuts, h7, t_common, r_at0, r_atS, r_put0, r_putS, Option.map_some, ex_some, o_sub, o_fdiv, o_lt, truthD, asgTg, Rho.leak, true_and, c, decide_false, if_false, Bool.false_eq_true]
    exact ⟨h0, hg, h0, hg, _, rfl, hQ⟩
end Lw
end Ev
set_option Elab.async false
set_option linter.all false
set_option autoImplicit false
set_option maxRecDepth 100000
set_option maxHeartbeats 1000000
namespace Ev
namespace Lw
open PySem
theorem fraction_ok (G : Glob) (as : List Val) (Q : Val → List Val → Prop) (X : D → List Val → Prop) (h : fnT rLow as Q X) : runF G 2 1 b_fraction as Q X := by
  obtain ⟨ds, r, rfl, ⟨p, q, rfl, hq, hl, rfl⟩, hQ⟩ := h
  refine ⟨rfl, ?_⟩
  show wpSs G b_fraction [some (.imm, .int p), some (.imm, .int q), none] _
  rw [← fr_low hq] at hQ
  have hg := gcd_log (p := p) hq (Nat.lt_trans hl (by decide : 8000 < 9000))
  have h0 : (Int.gcd p q : Int) ≠ 0 := by
    have : Int.gcd p q ≠ 0 := fun h => hq (Int.gcd_eq_zero_iff.mp h).2
    omega
  have eg : ((Nat.gcd p.natAbs q.natAbs : Nat) : Int) = (Int.gcd p q : Int) := rfl
  have ez : (q == 0) = false := by simpa using hq
  by_cases c : q < 0
  · rw [if_pos c] at hQ
    simp only [b_fraction, wpSs, wpS, wpOs, wpE, wpB, wpTs, resolve, Opd.get, r_at0, r_atS, r_put0, r_putS, Option.map_some, ex_some, o_eq, o_gcd, o_neg, o_fdiv, o_lt, eqD, lay, ez, eg, truthD, asgTg, Rho.leak, true_and, c, decide_true, if_true, Bool.false_eq_true, if_false]
    exact ⟨by omega, by rw [Int.natAbs_neg]; exact hg, by omega, by rw [Int.natAbs_neg]; exact hg, _, rfl, hQ⟩
  · rw [if_neg c] at hQ
    simp only [b_fraction, wpSs, wpS, wpOs, wpE, wpB, wpTs, resolve, Opd.get, r_at0, r_atS, r_put0, r_putS, Option.map_some, ex_some, o_eq, o_gcd, o_neg, o_fdiv, o_lt, eqD, lay, ez, eg, truthD, asgTg, Rho.leak, true_and, c, decide_false, if_false, Bool.false_eq_true]
    exact ⟨h0, hg, h0, hg, _, rfl, hQ⟩
theorem t_low {p q : Int} {Q : Val → List Val → Prop} {X : D → List Val → Prop} (hq : q ≠ 0) (hl : q.natAbs.log2 < 8000) (h : Q (.imm, fr (Rat.divInt p q)) [(.imm, .int p), (.imm, .int q)]) : fnT rLow [(.imm, .int p), (.imm, .int q)] Q X :=
  ⟨[.int p, .int q], _, rfl, ⟨p, q, rfl, hq, hl, rfl⟩, h⟩
def rPlus (ds : List D) (r : Val) : Prop := ∃ (x y : Rat) (k : Nat), ds = [fr x, fr y] ∧ k < 3000 ∧ 0 < k ∧ Sm k x ∧ Sm k y ∧ r = (.imm, fr (x + y))
theorem plus_ok (G : Glob) (h2 : G.fn 2 = fnT rLow) (as : List Val) (Q : Val → List Val → Prop) (X : D → List Val → Prop) (h : fnT rPlus as Q X) : runF G 2 0 b_plus as Q X := by
  obtain ⟨ds, r, rfl, ⟨x, y, k, rfl, hk, hk0, sx, sy, rfl⟩, hQ⟩ := h
  refine ⟨rfl, ?_⟩
  show wpSs G b_plus [some (.imm, fr x), some (.imm, fr y)] _
  have nx := x.den_nz
  have ny := y.den_nz
  have e2 : ((x.den : Int) * y.den).natAbs = x.den * y.den := by rw [Int.natAbs_mul, Int.natAbs_natCast, Int.natAbs_natCast]
  have hd : ((x.den : Int) * y.den).natAbs.log2 < 8000 := by
    have : x.den * y.den < 2 ^ (k + k) := by
      rw [Nat.pow_add]
      exact Nat.mul_lt_mul'' sx.2 sy.2
    have := log_lt (by omega) this
    rw [e2]
    omega
  have hd0 : (x.den : Int) * y.den ≠ 0 := Int.mul_ne_zero (by omega) (by omega)
  have m1 : MulOk x.num y.den := mul_ok (k := k) (by omega) sx.1 (by rw [Int.natAbs_natCast]; exact sy.2) hk0
  have m2 : MulOk y.num x.den := mul_ok (k := k) (by omega) sy.1 (by rw [Int.natAbs_natCast]; exact sx.2) hk0
  have m3 : MulOk (x.den : Int) y.den := mul_ok (k := k) (by omega) (by rw [Int.natAbs_natCast]; exact sx.2) (by rw [Int.natAbs_natCast]; exact sy.2) hk0
  by_cases hx1 : x.den = 1
  · have bx : ((x.den : Int) == 1) = true := by rw [hx1]; rfl
    by_cases hy1 : y.den = 1
    · have bY : ((y.den : Int) == 1) = true := by rw [hy1]; rfl
      rw [add_int hx1 hy1] at hQ
      simp only [b_plus, wpSs, wpS, wpOs, wpE, wpB, wpTs, resolve, Opd.get, argsOf, Opd.arg, argF, ownIx, nodupB, putOuts, h2, fr, r_at0, r_atS, r_put0, r_putS, Option.map_some, ex_some, o_eq, o_add, o_mul, o_idxt, a_0, a_1, eqD, lay, truthD, asgTg, Rho.leak, true_and, if_true, if_false, Bool.false_eq_true, bx, bY]
      exact ⟨_, rfl, hQ⟩
    · have bY : ((y.den : Int) == 1) = false := by
        rw [beq_eq_false_iff_ne]
        omega
      simp only [b_plus, wpSs, wpS, wpOs, wpE, wpB, wpTs, resolve, Opd.get, argsOf, Opd.arg, argF, ownIx, nodupB, putOuts, h2, fr, r_at0, r_atS, r_put0, r_putS, Option.map_some, ex_some, o_eq, o_add, o_mul, o_idxt, a_0, a_1, eqD, lay, truthD, asgTg, Rho.leak, true_and, if_true, if_false, Bool.false_eq_true, bx, bY]
      refine ⟨m1, m2, m3, t_low hd0 hd ⟨_, rfl, ?_⟩⟩
      rw [add_eq]
      exact hQ
  · have bx : ((x.den : Int) == 1) = false := by
      rw [beq_eq_false_iff_ne]
      omega
    simp only [b_plus, wpSs, wpS, wpOs, wpE, wpB, wpTs, resolve, Opd.get, argsOf, Opd.arg, argF, ownIx, nodupB, putOuts, h2, fr, r_at0, r_atS, r_put0, r_putS, Option.map_some, ex_some, o_eq, o_add, o_mul, o_idxt, a_0, a_1, eqD, lay, truthD, asgTg, Rho.leak, true_and, if_true, if_false, Bool.false_eq_true, bx]
    refine ⟨m1, m2, m3, t_low hd0 hd ⟨_, rfl, ?_⟩⟩
    rw [add_eq]
    exact hQ
end Lw
end Ev
set_option Elab.async false
set_option linter.all false
set_option autoImplicit false
set_option maxRecDepth 100000
set_option maxHeartbeats 1000000
namespace Ev
namespace Lw
open PySem
def rTimes (ds : List D) (r : Val) : Prop := ∃ (x y : Rat) (k : Nat), ds = [fr x, fr y] ∧ k < 3000 ∧ 0 < k ∧ Sm k x ∧ Sm k y ∧ r = (.imm, fr (x * y))
theorem times_ok (G : Glob) (h2 : G.fn 2 = fnT rLow) (as : List Val) (Q : Val → List Val → Prop) (X : D → List Val → Prop) (h : fnT rTimes as Q X) : runF G 2 0 b_times as Q X := by
  obtain ⟨ds, r, rfl, ⟨x, y, k, rfl, hk, hk0, sx, sy, rfl⟩, hQ⟩ := h
  refine ⟨rfl, ?_⟩
  show wpSs G b_times [some (.imm, fr x), some (.imm, fr y)] _
  have nx := x.den_nz
  have ny := y.den_nz
  have e2 : ((x.den : Int) * y.den).natAbs = x.den * y.den := by rw [Int.natAbs_mul, Int.natAbs_natCast, Int.natAbs_natCast]
  have hd : ((x.den : Int) * y.den).natAbs.log2 < 8000 := by
    have : x.den * y.den < 2 ^ (k + k) := by
      rw [Nat.pow_add]
      exact Nat.mul_lt_mul'' sx.2 sy.2
    have := log_lt (by omega) this
    rw [e2]
    omega
  have hd0 : (x.den : Int) * y.den ≠ 0 := Int.mul_ne_zero (by omega) (by omega)
  have m1 : MulOk x.num y.num := mul_ok (k := k) (by omega) sx.1 sy.1 hk0
  have m3 : MulOk (x.den : Int) y.den := mul_ok (k := k) (by omega) (by rw [Int.natAbs_natCast]; exact sx.2) (by rw [Int.natAbs_natCast]; exact sy.2) hk0
  by_cases hx1 : x.den = 1
  · have bx : ((x.den : Int) == 1) = true := by rw [hx1]; rfl
    by_cases hy1 : y.den = 1
    · have bY : ((y.den : Int) == 1) = true := by rw [hy1]; rfl
      rw [mul_int' hx1 hy1] at hQ
      simp only [b_times, wpSs, wpS, wpOs, wpE, wpB, wpTs, resolve, Opd.get, argsOf, Opd.arg, argF, ownIx, nodupB, putOuts, h2, fr, r_at0, r_atS, r_put0, r_putS, Option.map_some, ex_some, o_eq, o_add, o_mul, o_idxt, a_0, a_1, eqD, lay, truthD, asgTg, Rho.leak, true_and, if_true, if_false, Bool.false_eq_true, bx, bY]
      exact ⟨m1, _, rfl, hQ⟩
    · have bY : ((y.den : Int) == 1) = false := by
        rw [beq_eq_false_iff_ne]
        omega
      simp only [b_times, wpSs, wpS, wpOs, wpE, wpB, wpTs, resolve, Opd.get, argsOf, Opd.arg, argF, ownIx, nodupB, putOuts, h2, fr, r_at0, r_atS, r_put0, r_putS, Option.map_some, ex_some, o_eq, o_add, o_mul, o_idxt, a_0, a_1, eqD, lay, truthD, asgTg, Rho.leak, true_and, if_true, if_false, Bool.false_eq_true, bx, bY]
      refine ⟨m1, m3, t_low hd0 hd ⟨_, rfl, ?_⟩⟩
      rw [mul_eq]
      exact hQ
  · have bx : ((x.den : Int) == 1) = false := by
      rw [beq_eq_false_iff_ne]
      omega
    simp only [b_times, wpSs, wpS, wpOs, wpE, wpB, wpTs, resolve, Opd.get, argsOf, Opd.arg, argF, ownIx, nodupB, putOuts, h2, fr, r_at0, r_atS, r_put0, r_putS, Option.map_some, ex_some, o_eq, o_add, o_mul, o_idxt, a_0, a_1, eqD, lay, truthD, asgTg, Rho.leak, true_and, if_true, if_false, Bool.false_eq_true, bx]
    refine ⟨m1, m3, t_low hd0 hd ⟨_, rfl, ?_⟩⟩
    rw [mul_eq]
    exact hQ
/-! what is a fraction -/
def isInt' : D → Bool
  | .int _ => true
  | _ => false
def rWhole (ds : List D) (r : Val) : Prop := ∃ d, ds = [d] ∧ r = (.imm, .bl (isInt' d))
theorem isNum (d : D) : (hasTy .int d && !hasTy .bool d) = isInt' d := by cases d <;> rfl
theorem number_ok (G : Glob) (as : List Val) (Q : Val → List Val → Prop) (X : D → List Val → Prop) (h : fnT rWhole as Q X) : runF G 1 0 b__is_number as Q X := by
  obtain ⟨ds, r, rfl, ⟨d, rfl, rfl⟩, hQ⟩ := h
  refine ⟨rfl, ?_⟩
  show wpSs G b__is_number [some (.imm, d)] _
  rw [← isNum] at hQ
  simp only [b__is_number, wpSs, wpS, wpOs, wpE, wpB, wpTs, resolve, Opd.get, r_at0, r_atS, Option.map_some, ex_some, o_isi, List.any_cons, List.any_nil, Bool.or_false, Prod.mk.injEq, D.bl.injEq, true_and]
  cases q1 : hasTy .int d <;> cases q2 : hasTy .bool d <;> rw [q1, q2] at hQ <;> exact ⟨_, rfl, by simpa using ⟨_, rfl, hQ⟩⟩
end Lw
end Ev
set_option Elab.async false
set_option linter.all false
set_option autoImplicit false
set_option maxRecDepth 100000
set_option maxHeartbeats 1000000
namespace Ev
namespace Lw
open PySem
def frac2 : D → D → Bool
  | .int p, .int q => decide (1 ≤ q) && (((Nat.gcd p.natAbs q.natAbs : Nat) : Int) == 1)
  | _, _ => false
def isFrac : D → Bool
  | .tup [a, b] => frac2 a b
  | _ => false
theorem frac2_no (a b : D) (h : isInt' a = false ∨ isInt' b = false) : frac2 a b = false := by
  cases a <;> cases b <;> first | rfl | (rcases h with h | h <;> cases h)
theorem int_of {a : D} (h : isInt' a = true) : ∃ i, a = .int i := by
  cases a <;> first | (cases h; done) | exact ⟨_, rfl⟩
def rIsFr (ds : List D) (r : Val) : Prop := ∃ d, ds = [d] ∧ r = (.imm, .bl (isFrac d))
theorem t_whole {d : D} {Q : Val → List Val → Prop} {X : D → List Val → Prop} : fnT rWhole [(.imm, d)] Q X = Q (.imm, .bl (isInt' d)) [(.imm, d)] := by
  apply propext
  constructor
  · rintro ⟨ds, r, e, ⟨d', rfl, rfl⟩, q⟩
    simp only [List.map_cons, List.map_nil, List.cons.injEq, Prod.mk.injEq, true_and, and_true] at e
    subst e
    exact q
  · intro q
    exact ⟨[d], _, rfl, ⟨d, rfl, rfl⟩, q⟩
theorem isfrac_ok (G : Glob) (h0 : G.fn 0 = fnT rWhole) (as : List Val) (Q : Val → List Val → Prop) (X : D → List Val → Prop) (h : fnT rIsFr as Q X) : runF G 1 2 b_is_fraction as Q X := by
  obtain ⟨ds, r, rfl, ⟨d, rfl, rfl⟩, hQ⟩ := h
  refine ⟨rfl, ?_⟩
  show wpSs G b_is_fraction [some (.imm, d), none, none] _
  have no : ∀ d : D, hasTy .tuple d = false → isFrac d = false := fun d h => by cases d <;> first | rfl | (cases h; done)
  cases ht : hasTy .tuple d with
  | false =>
    rw [no d ht] at hQ
    simp only [b_is_fraction, wpSs, wpS, wpOs, wpE, wpB, resolve, Opd.get, r_at0, r_atS, Option.map_some, ex_some, o_isi, List.any_cons, List.any_nil, Bool.or_false, ht, truthD, Bool.not_false, if_true]
    exact ⟨_, rfl, hQ⟩
  | true =>
    cases d with
    | tup xs =>
      match xs, hQ with
      | [], hQ =>
        simp only [b_is_fraction, wpSs, wpS, wpOs, wpE, wpB, resolve, Opd.get, r_at0, r_atS, Option.map_some, ex_some, o_isi, o_lent, o_ne, lay, eqD, List.any_cons, List.any_nil, Bool.or_false, ht, truthD, Bool.not_true, Bool.false_eq_true, if_false, true_and, List.length_nil]
        exact ⟨_, rfl, hQ⟩
      | [a], hQ =>
        simp only [b_is_fraction, wpSs, wpS, wpOs, wpE, wpB, resolve, Opd.get, r_at0, r_atS, Option.map_some, ex_some, o_isi, o_lent, o_ne, lay, eqD, List.any_cons, List.any_nil, Bool.or_false, ht, truthD, Bool.not_true, Bool.false_eq_true, if_false, true_and, List.length_cons, List.length_nil]
        exact ⟨_, rfl, hQ⟩
      | a :: b :: c :: r, hQ =>
        have hl : ((((a :: b :: c :: r).length : Nat) : Int) == 2) = false := by
          rw [beq_eq_false_iff_ne]
          simp only [List.length_cons]
          omega
        simp only [b_is_fraction, wpSs, wpS, wpOs, wpE, wpB, resolve, Opd.get, r_at0, r_atS, Option.map_some, ex_some, o_isi, o_lent, o_ne, lay, eqD, hl, List.any_cons, List.any_nil, Bool.or_false, ht, truthD, Bool.not_true, Bool.not_false, Bool.false_eq_true, if_false, if_true, true_and]
        exact ⟨_, rfl, hQ⟩
      | [a, b], hQ =>
        have hl2 : (((0 + 1 + 1 : Nat) : Int) == 2) = true := rfl
        have hQ : Q (.imm, .bl (frac2 a b)) [(.imm, .tup [a, b])] := hQ
        cases ha : isInt' a with
        | false =>
          rw [frac2_no a b (.inl ha)] at hQ
          simp only [b_is_fraction, wpSs, wpS, wpOs, wpE, wpB, resolve, Opd.get, argsOf, Opd.arg, argF, ownIx, nodupB, putOuts, h0, t_whole, asgTg, asgVs, Rho.leak, r_at0, r_atS, r_put0, r_putS, Option.map_some, ex_some, o_isi, o_lent, o_ne, o_ge, o_gcd, o_eq, lay, eqD, List.any_cons, List.any_nil, Bool.or_false, ht, truthD, Bool.not_true, Bool.not_false, Bool.false_eq_true, if_false, if_true, true_and, List.length_cons, List.length_nil, hl2, ha]
          exact ⟨_, rfl, hQ⟩
        | true =>
          cases hb : isInt' b with
          | false =>
            rw [frac2_no a b (.inr hb)] at hQ
            simp only [b_is_fraction, wpSs, wpS, wpOs, wpE, wpB, resolve, Opd.get, argsOf, Opd.arg, argF, ownIx, nodupB, putOuts, h0, t_whole, asgTg, asgVs, Rho.leak, r_at0, r_atS, r_put0, r_putS, Option.map_some, ex_some, o_isi, o_lent, o_ne, o_ge, o_gcd, o_eq, lay, eqD, List.any_cons, List.any_nil, Bool.or_false, ht, truthD, Bool.not_true, Bool.not_false, Bool.false_eq_true, if_false, if_true, true_and, List.length_cons, List.length_nil, hl2, ha, hb]
            exact ⟨_, rfl, hQ⟩
          | true =>
            obtain ⟨p, rfl⟩ := int_of ha
            obtain ⟨q, rfl⟩ := int_of hb
            have hQ : Q (.imm, .bl (decide (1 ≤ q) && (((Nat.gcd p.natAbs q.natAbs : Nat) : Int) == 1))) [(.imm, .tup [.int p, .int q])] := hQ
            by_cases c : 1 ≤ q
            · rw [decide_eq_true c, Bool.true_and] at hQ
              simp only [b_is_fraction, wpSs, wpS, wpOs, wpE, wpB, resolve, Opd.get, argsOf, Opd.arg, argF, ownIx, nodupB, putOuts, h0, t_whole, asgTg, asgVs, Rho.leak, r_at0, r_atS, r_put0, r_putS, Option.map_some, ex_some, o_isi, o_lent, o_ne, o_ge, o_gcd, o_eq, lay, eqD, List.any_cons, List.any_nil, Bool.or_false, ht, truthD, Bool.not_true, Bool.not_false, Bool.false_eq_true, if_false, if_true, true_and, List.length_cons, List.length_nil, hl2, ha, hb]
              refine ⟨true, by rw [decide_eq_true c], ?_⟩
              simp only [if_true]
              exact ⟨_, rfl, hQ⟩
            · rw [decide_eq_false c, Bool.false_and] at hQ
              simp only [b_is_fraction, wpSs, wpS, wpOs, wpE, wpB, resolve, Opd.get, argsOf, Opd.arg, argF, ownIx, nodupB, putOuts, h0, t_whole, asgTg, asgVs, Rho.leak, r_at0, r_atS, r_put0, r_putS, Option.map_some, ex_some, o_isi, o_lent, o_ne, o_ge, o_gcd, o_eq, lay, eqD, List.any_cons, List.any_nil, Bool.or_false, ht, truthD, Bool.not_true, Bool.not_false, Bool.false_eq_true, if_false, if_true, true_and, List.length_cons, List.length_nil, hl2, ha, hb]
              refine ⟨false, by rw [decide_eq_false c], ?_⟩
              simp only [Bool.false_eq_true, if_false]
              exact ⟨_, rfl, hQ⟩
    | _ => cases ht
end Lw
end Ev
set_option Elab.async false
set_option linter.all false
set_option autoImplicit false
set_option maxRecDepth 100000
set_option maxHeartbeats 1000000
namespace Ev
namespace Lw
open PySem
/-! a draw of a list -/
def pickT : Tr := fun as Q _ => ∃ (bag : D) (f : Fl) (xs : List D), as = [(.par, bag), (f, .lst xs)] ∧ (f = .imm ∨ f = .par) ∧ Bag bag ∧ xs ≠ [] ∧ (xs.length : Int) < 2 ^ 62 ∧ ∀ d bag', d ∈ xs → Bag bag' → Q (.imm, d) [(.par, bag'), (f, .lst xs)]
theorem atI_mem {xs : List D} {i : Int} (h0 : 0 ≤ i) (h1 : i < xs.length) : ∃ d, d ∈ xs ∧ atI xs i = some d := by
  obtain ⟨n, rfl⟩ : ∃ n : Nat, i = n := ⟨i.toNat, by omega⟩
  rw [atI_nat, List.getElem?_eq_getElem (by omega : n < xs.length)]
  exact ⟨_, List.getElem_mem _, rfl⟩
theorem t_draw {bag : D} {many : Int} {Q : Val → List Val → Prop} {X : D → List Val → Prop} (hb : Bag bag) (h1 : 0 < many) (h2 : many < 2 ^ 62) (h : ∀ d bag', Bag bag' → 0 ≤ d → d < many → Q (.imm, .int d) [(.par, bag'), (.imm, .int many)]) : drawT [(.par, bag), (.imm, .int many)] Q X :=
  ⟨bag, many, rfl, hb, h1, h2, h⟩
theorem bag_lst {bag : D} (h : Bag bag) : ∃ ds, bag = .lst ds := by
  obtain ⟨a, b, c, d, e, rfl, _⟩ := h
  exact ⟨_, rfl⟩
theorem pick_ok (G : Glob) (h5 : G.fn 5 = drawT) (as : List Val) (Q : Val → List Val → Prop) (X : D → List Val → Prop) (h : pickT as Q X) : runF G 2 0 b__law_pick as Q X := by
  obtain ⟨bag, f, xs, rfl, hf, hb, hx, hz, hQ⟩ := h
  refine ⟨rfl, ?_⟩
  show wpSs G b__law_pick [some (.par, bag), some (f, .lst xs)] _
  have hl : 0 < xs.length := List.length_pos_iff.mpr hx
  rcases hf with rfl | rfl
  · simp only [b__law_pick, wpSs, wpS, wpOs, wpE, resolve, Opd.get, argsOf, Opd.arg, argF, ownIx, nodupB, h5, r_at0, r_atS, r_put0, r_putS, Option.map_some, ex_some, o_lenl, true_and, List.contains_nil, Bool.not_false, Bool.true_and]
    refine t_draw hb (by omega) hz fun d bag' hb' h0 h1 => ?_
    obtain ⟨v, hv, e⟩ := atI_mem (xs := xs) h0 h1
    simp only [putOuts, resolve, Opd.get, r_at0, r_atS, r_put0, r_putS, Option.map_some, ex_some, o_idxl, e]
    exact ⟨_, rfl, hQ v bag' hv hb'⟩
  · simp only [b__law_pick, wpSs, wpS, wpOs, wpE, resolve, Opd.get, argsOf, Opd.arg, argF, ownIx, nodupB, h5, r_at0, r_atS, r_put0, r_putS, Option.map_some, ex_some, o_lenl, true_and, List.contains_nil, Bool.not_false, Bool.true_and]
    refine t_draw hb (by omega) hz fun d bag' hb' h0 h1 => ?_
    obtain ⟨v, hv, e⟩ := atI_mem (xs := xs) h0 h1
    simp only [putOuts, resolve, Opd.get, r_at0, r_atS, r_put0, r_putS, Option.map_some, ex_some, o_idxl, e]
    exact ⟨_, rfl, hQ v bag' hv hb'⟩
/-! spots -/
def isSpot : D → Bool
  | .tup [a, b] => isFrac a && isFrac b
  | _ => false
def rIsSp (ds : List D) (r : Val) : Prop := ∃ d, ds = [d] ∧ r = (.imm, .bl (isSpot d))
theorem t_isfr {d : D} {Q : Val → List Val → Prop} {X : D → List Val → Prop} : fnT rIsFr [(.imm, d)] Q X = Q (.imm, .bl (isFrac d)) [(.imm, d)] := by
  apply propext
  constructor
  · rintro ⟨ds, r, e, ⟨d', rfl, rfl⟩, q⟩
    simp only [List.map_cons, List.map_nil, List.cons.injEq, Prod.mk.injEq, true_and, and_true] at e
    subst e
    exact q
  · intro q
    exact ⟨[d], _, rfl, ⟨d, rfl, rfl⟩, q⟩
theorem bl_and {k : Bool} {p : Bool → Prop} : (∃ j : Bool, D.bl k = D.bl j ∧ p j) = p k := by
  apply propext
  exact ⟨fun ⟨j, e, h⟩ => by cases e; exact h, fun h => ⟨k, rfl, h⟩⟩
theorem if_bl {k : Bool} {p q : Prop} : (if k = true then p else q) = (match k with | true => p | false => q) := by cases k <;> simp
theorem isspot_ok (G : Glob) (h1 : G.fn 1 = fnT rIsFr) (as : List Val) (Q : Val → List Val → Prop) (X : D → List Val → Prop) (h : fnT rIsSp as Q X) : runF G 1 0 b_is_spot as Q X := by
  obtain ⟨ds, r, rfl, ⟨d, rfl, rfl⟩, hQ⟩ := h
  refine ⟨rfl, ?_⟩
  show wpSs G b_is_spot [some (.imm, d)] _
  have no : ∀ d : D, hasTy .tuple d = false → isSpot d = false := fun d h => by cases d <;> first | rfl | (cases h; done)
  cases ht : hasTy .tuple d with
  | false =>
    rw [no d ht] at hQ
    simp only [b_is_spot, wpSs, wpS, wpOs, wpE, wpB, resolve, Opd.get, r_at0, r_atS, Option.map_some, ex_some, o_isi, List.any_cons, List.any_nil, Bool.or_false, ht, bl_and, Bool.false_eq_true, if_false]
    exact ⟨_, rfl, hQ⟩
  | true =>
    cases d with
    | tup xs =>
      have other : xs.length ≠ 2 → isSpot (.tup xs) = false := fun h => by
        match xs, h with
        | [], _ => rfl
        | [_], _ => rfl
        | [_, _], h => exact (h rfl).elim
        | _ :: _ :: _ :: _, _ => rfl
      by_cases hl : xs.length = 2
      · match xs, hl, hQ with
        | [a, b], _, hQ =>
          have hQ : Q (.imm, .bl (isFrac a && isFrac b)) [(.imm, .tup [a, b])] := hQ
          have hl2 : (((0 + 1 + 1 : Nat) : Int) == 2) = true := rfl
          simp only [b_is_spot, wpSs, wpS, wpOs, wpE, wpB, resolve, Opd.get, argsOf, Opd.arg, argF, ownIx, nodupB, putOuts, h1, t_isfr, r_at0, r_atS, Option.map_some, ex_some, o_isi, o_lent, o_eq, o_idxt, a_0, a_1, lay, eqD, List.any_cons, List.any_nil, Bool.or_false, ht, bl_and, if_true, true_and, List.length_cons, List.length_nil, hl2]
          cases qa : isFrac a with
          | false =>
            rw [qa, Bool.false_and] at hQ
            simp only [Bool.false_eq_true, if_false]
            exact ⟨_, rfl, hQ⟩
          | true =>
            rw [qa, Bool.true_and] at hQ
            simp only [if_true]
            exact ⟨_, rfl, hQ⟩
      · rw [other hl] at hQ
        have hl' : (((xs.length : Nat) : Int) == 2) = false := by
          rw [beq_eq_false_iff_ne]
          omega
        simp only [b_is_spot, wpSs, wpS, wpOs, wpE, wpB, resolve, Opd.get, r_at0, r_atS, Option.map_some, ex_some, o_isi, o_lent, o_eq, lay, eqD, List.any_cons, List.any_nil, Bool.or_false, ht, bl_and, if_true, true_and, hl', Bool.false_eq_true, if_false]
        exact ⟨_, rfl, hQ⟩
    | _ => cases ht
end Lw
end Ev
set_option Elab.async false
set_option linter.all false
set_option autoImplicit false
set_option maxRecDepth 100000
set_option maxHeartbeats 1000000
namespace Ev
namespace Lw
open PySem
theorem whole_ok (G : Glob) (as : List Val) (Q : Val → List Val → Prop) (X : D → List Val → Prop) (h : fnT rWhole as Q X) : runF G 1 0 b__law_is_whole as Q X := by
  obtain ⟨ds, r, rfl, ⟨d, rfl, rfl⟩, hQ⟩ := h
  refine ⟨rfl, ?_⟩
  show wpSs G b__law_is_whole [some (.imm, d)] _
  rw [← isNum] at hQ
  simp only [b__law_is_whole, wpSs, wpS, wpOs, wpE, wpB, wpTs, resolve, Opd.get, r_at0, r_atS, Option.map_some, ex_some, o_isi, List.any_cons, List.any_nil, Bool.or_false, Prod.mk.injEq, D.bl.injEq, true_and]
  cases q1 : hasTy .int d <;> cases q2 : hasTy .bool d <;> rw [q1, q2] at hQ <;> exact ⟨_, rfl, by simpa using ⟨_, rfl, hQ⟩⟩
theorem lfrac_ok (G : Glob) (h0 : G.fn 8 = fnT rWhole) (h7 : G.fn 7 = fnT rCommon) (as : List Val) (Q : Val → List Val → Prop) (X : D → List Val → Prop) (h : fnT rIsFr as Q X) : runF G 1 0 b__law_is_fraction as Q X := by
  obtain ⟨ds, r, rfl, ⟨d, rfl, rfl⟩, hQ⟩ := h
  refine ⟨rfl, ?_⟩
  show wpSs G b__law_is_fraction [some (.imm, d)] _
  have no : ∀ d : D, hasTy .tuple d = false → isFrac d = false := fun d h => by cases d <;> first | rfl | (cases h; done)
  cases ht : hasTy .tuple d with
  | false =>
    rw [no d ht] at hQ
    simp only [b__law_is_fraction, wpSs, wpS, wpOs, wpE, wpB, resolve, Opd.get, r_at0, r_atS, Option.map_some, ex_some, o_isi, List.any_cons, List.any_nil, Bool.or_false, ht, truthD, Bool.not_false, if_true]
    exact ⟨_, rfl, hQ⟩
  | true =>
    cases d with
    | tup xs =>
      match xs, hQ with
      | [], hQ =>
        simp only [b__law_is_fraction, wpSs, wpS, wpOs, wpE, wpB, resolve, Opd.get, r_at0, r_atS, Option.map_some, ex_some, o_isi, o_lent, o_ne, lay, eqD, List.any_cons, List.any_nil, Bool.or_false, ht, truthD, Bool.not_true, Bool.false_eq_true, if_false, true_and, List.length_nil]
        exact ⟨_, rfl, hQ⟩
      | [a], hQ =>
        simp only [b__law_is_fraction, wpSs, wpS, wpOs, wpE, wpB, resolve, Opd.get, r_at0, r_atS, Option.map_some, ex_some, o_isi, o_lent, o_ne, lay, eqD, List.any_cons, List.any_nil, Bool.or_false, ht, truthD, Bool.not_true, Bool.false_eq_true, if_false, true_and, List.length_cons, List.length_nil]
        exact ⟨_, rfl, hQ⟩
      | a :: b :: c :: r, hQ =>
        have hl : ((((a :: b :: c :: r).length : Nat) : Int) == 2) = false := by
          rw [beq_eq_false_iff_ne]
          simp only [List.length_cons]
          omega
        simp only [b__law_is_fraction, wpSs, wpS, wpOs, wpE, wpB, resolve, Opd.get, r_at0, r_atS, Option.map_some, ex_some, o_isi, o_lent, o_ne, lay, eqD, hl, List.any_cons, List.any_nil, Bool.or_false, ht, truthD, Bool.not_true, Bool.not_false, Bool.false_eq_true, if_false, if_true, true_and]
        exact ⟨_, rfl, hQ⟩
      | [a, b], hQ =>
        have hl2 : (((0 + 1 + 1 : Nat) : Int) == 2) = true := rfl
        have hQ : Q (.imm, .bl (frac2 a b)) [(.imm, .tup [a, b])] := hQ
        cases ha : isInt' a with
        | false =>
          rw [frac2_no a b (.inl ha)] at hQ
          simp only [b__law_is_fraction, wpSs, wpS, wpOs, wpE, wpB, resolve, Opd.get, argsOf, Opd.arg, argF, ownIx, nodupB, putOuts, h0, t_whole, asgTg, asgVs, Rho.leak, r_at0, r_atS, r_put0, r_putS, Option.map_some, ex_some, o_isi, o_lent, o_ne, o_gt, o_idxt, a_0, a_1, h7, t_common, bl_and,  o_eq, lay, eqD, List.any_cons, List.any_nil, Bool.or_false, ht, truthD, Bool.not_true, Bool.not_false, Bool.false_eq_true, if_false, if_true, true_and, List.length_cons, List.length_nil, hl2, ha]
          exact ⟨_, rfl, hQ⟩
        | true =>
          cases hb : isInt' b with
          | false =>
            rw [frac2_no a b (.inr hb)] at hQ
            simp only [b__law_is_fraction, wpSs, wpS, wpOs, wpE, wpB, resolve, Opd.get, argsOf, Opd.arg, argF, ownIx, nodupB, putOuts, h0, t_whole, asgTg, asgVs, Rho.leak, r_at0, r_atS, r_put0, r_putS, Option.map_some, ex_some, o_isi, o_lent, o_ne, o_gt, o_idxt, a_0, a_1, h7, t_common, bl_and,  o_eq, lay, eqD, List.any_cons, List.any_nil, Bool.or_false, ht, truthD, Bool.not_true, Bool.not_false, Bool.false_eq_true, if_false, if_true, true_and, List.length_cons, List.length_nil, hl2, ha, hb]
            exact ⟨_, rfl, hQ⟩
          | true =>
            obtain ⟨p, rfl⟩ := int_of ha
            obtain ⟨q, rfl⟩ := int_of hb
            have hQ : Q (.imm, .bl (decide (1 ≤ q) && (((Nat.gcd p.natAbs q.natAbs : Nat) : Int) == 1))) [(.imm, .tup [.int p, .int q])] := hQ
            have eg : ((Int.gcd p q : Nat) : Int) = ((Nat.gcd p.natAbs q.natAbs : Nat) : Int) := rfl
            by_cases c : 1 ≤ q
            · rw [decide_eq_true c, Bool.true_and] at hQ
              simp only [b__law_is_fraction, wpSs, wpS, wpOs, wpE, wpB, resolve, Opd.get, argsOf, Opd.arg, argF, ownIx, nodupB, putOuts, h0, t_whole, asgTg, asgVs, Rho.leak, r_at0, r_atS, r_put0, r_putS, Option.map_some, ex_some, o_isi, o_lent, o_ne, o_gt, o_idxt, a_0, a_1, h7, t_common, bl_and,  o_eq, lay, eqD, List.any_cons, List.any_nil, Bool.or_false, ht, truthD, Bool.not_true, Bool.not_false, Bool.false_eq_true, if_false, if_true, true_and, List.length_cons, List.length_nil, hl2, ha, hb]
              rw [if_pos (by simp; omega)]
              exact ⟨_, rfl, hQ⟩
            · rw [decide_eq_false c, Bool.false_and] at hQ
              simp only [b__law_is_fraction, wpSs, wpS, wpOs, wpE, wpB, resolve, Opd.get, argsOf, Opd.arg, argF, ownIx, nodupB, putOuts, h0, t_whole, asgTg, asgVs, Rho.leak, r_at0, r_atS, r_put0, r_putS, Option.map_some, ex_some, o_isi, o_lent, o_ne, o_gt, o_idxt, a_0, a_1, h7, t_common, bl_and,  o_eq, lay, eqD, List.any_cons, List.any_nil, Bool.or_false, ht, truthD, Bool.not_true, Bool.not_false, Bool.false_eq_true, if_false, if_true, true_and, List.length_cons, List.length_nil, hl2, ha, hb]
              rw [if_neg (by simp; omega)]
              exact ⟨_, rfl, hQ⟩
    | _ => cases ht
theorem lspot_ok (G : Glob) (h1 : G.fn 9 = fnT rIsFr) (as : List Val) (Q : Val → List Val → Prop) (X : D → List Val → Prop) (h : fnT rIsSp as Q X) : runF G 1 0 b__law_is_spot as Q X := by
  obtain ⟨ds, r, rfl, ⟨d, rfl, rfl⟩, hQ⟩ := h
  refine ⟨rfl, ?_⟩
  show wpSs G b__law_is_spot [some (.imm, d)] _
  have no : ∀ d : D, hasTy .tuple d = false → isSpot d = false := fun d h => by cases d <;> first | rfl | (cases h; done)
  cases ht : hasTy .tuple d with
  | false =>
    rw [no d ht] at hQ
    simp only [b__law_is_spot, wpSs, wpS, wpOs, wpE, wpB, resolve, Opd.get, r_at0, r_atS, Option.map_some, ex_some, o_isi, List.any_cons, List.any_nil, Bool.or_false, ht, bl_and, Bool.false_eq_true, if_false]
    exact ⟨_, rfl, hQ⟩
  | true =>
    cases d with
    | tup xs =>
      have other : xs.length ≠ 2 → isSpot (.tup xs) = false := fun h => by
        match xs, h with
        | [], _ => rfl
        | [_], _ => rfl
        | [_, _], h => exact (h rfl).elim
        | _ :: _ :: _ :: _, _ => rfl
      by_cases hl : xs.length = 2
      · match xs, hl, hQ with
        | [a, b], _, hQ =>
          have hQ : Q (.imm, .bl (isFrac a && isFrac b)) [(.imm, .tup [a, b])] := hQ
          have hl2 : (((0 + 1 + 1 : Nat) : Int) == 2) = true := rfl
          simp only [b__law_is_spot, wpSs, wpS, wpOs, wpE, wpB, resolve, Opd.get, argsOf, Opd.arg, argF, ownIx, nodupB, putOuts, h1, t_isfr, r_at0, r_atS, Option.map_some, ex_some, o_isi, o_lent, o_eq, o_idxt, a_0, a_1, lay, eqD, List.any_cons, List.any_nil, Bool.or_false, ht, bl_and, if_true, true_and, List.length_cons, List.length_nil, hl2]
          cases qa : isFrac a with
          | false =>
            rw [qa, Bool.false_and] at hQ
            simp only [Bool.false_eq_true, if_false]
            exact ⟨_, rfl, hQ⟩
          | true =>
            rw [qa, Bool.true_and] at hQ
            simp only [if_true]
            exact ⟨_, rfl, hQ⟩
      · rw [other hl] at hQ
        have hl' : (((xs.length : Nat) : Int) == 2) = false := by
          rw [beq_eq_false_iff_ne]
          omega
        simp only [b__law_is_spot, wpSs, wpS, wpOs, wpE, wpB, resolve, Opd.get, r_at0, r_atS, Option.map_some, ex_some, o_isi, o_lent, o_eq, lay, eqD, List.any_cons, List.any_nil, Bool.or_false, ht, bl_and, if_true, true_and, hl', Bool.false_eq_true, if_false]
        exact ⟨_, rfl, hQ⟩
    | _ => cases ht
end Lw
end Ev
set_option Elab.async false
set_option linter.all false
set_option autoImplicit false
set_option maxRecDepth 100000
set_option maxHeartbeats 1000000
namespace Ev
namespace Lw
open PySem
/-! a fraction's text -/
def textF (x : Rat) : Str := textI x.num ++ (if x.den = 1 then ("" : Str) else ("/" : Str) ++ textI x.den)
theorem textI_len {i : Int} {k : Nat} (hk : 0 < k) (h : i.natAbs.log2 < k) : (textI i).length ≤ k + 1 := by
  have e := PySem.int_text_length_le (k := k) hk h
  show (Str.ofString (toString i)).length ≤ k + 1
  rw [ofString_length]
  exact e
theorem slash_len : (("/" : Str)).length = 1 := by decide
theorem o_toStr {i : Int} {P : Val → Prop} : opP .toStr [.int i] P = (i.natAbs.log2 < 1920 ∧ P (.imm, .str (textI i))) := rfl
theorem app_len (a b : Str) : (a ++ b).length = a.length + b.length := Str.length_append a b
def rText (ds : List D) (r : Val) : Prop := ∃ x : Rat, ds = [fr x] ∧ x.num.natAbs.log2 < 1000 ∧ x.den.log2 < 1000 ∧ r = (.imm, .str (textF x))
theorem ltext_ok (G : Glob) (as : List Val) (Q : Val → List Val → Prop) (X : D → List Val → Prop) (h : fnT rText as Q X) : runF G 1 0 b__law_fraction_text as Q X := by
  obtain ⟨ds, r, rfl, ⟨x, rfl, l1, l2, rfl⟩, hQ⟩ := h
  refine ⟨rfl, ?_⟩
  show wpSs G b__law_fraction_text [some (.imm, fr x)] _
  have n1 := textI_len (by decide) l1
  have n2 : (textI (x.den : Int)).length ≤ 1001 := textI_len (by decide) (by rw [Int.natAbs_natCast]; exact l2)
  by_cases hx : x.den = 1
  · have bx : ((x.den : Int) == 1) = true := by rw [hx]; rfl
    unfold textF at hQ
    rw [if_pos hx] at hQ
    simp only [b__law_fraction_text, wpSs, wpS, wpOs, wpE, wpB, resolve, Opd.get, fr, r_at0, r_atS, Option.map_some, ex_some, o_toStr, o_idxt, a_0, a_1, o_eq, o_adds, lay, eqD, truthD, true_and, bx, if_true]
    refine ⟨by omega, ?_, _, rfl, hQ⟩
    have : ((Str.ofString "")).length = 0 := by decide
    simp only [line]
    omega
  · have bx : ((x.den : Int) == 1) = false := by
      rw [beq_eq_false_iff_ne]
      omega
    unfold textF at hQ
    rw [if_neg hx] at hQ
    simp only [b__law_fraction_text, wpSs, wpS, wpOs, wpE, wpB, resolve, Opd.get, fr, r_at0, r_atS, Option.map_some, ex_some, o_toStr, o_idxt, a_0, a_1, o_eq, o_adds, lay, eqD, truthD, true_and, bx, if_false, Bool.false_eq_true, app_len, slash_len]
    refine ⟨by omega, by rw [Int.natAbs_natCast]; omega, by simp only [line]; omega, by simp only [line]; omega, _, rfl, hQ⟩
theorem text_ok (G : Glob) (as : List Val) (Q : Val → List Val → Prop) (X : D → List Val → Prop) (h : fnT rText as Q X) : runF G 1 0 b_fraction_text as Q X := by
  obtain ⟨ds, r, rfl, ⟨x, rfl, l1, l2, rfl⟩, hQ⟩ := h
  refine ⟨rfl, ?_⟩
  show wpSs G b_fraction_text [some (.imm, fr x)] _
  have n1 := textI_len (by decide) l1
  have l2' : (x.den : Int).natAbs.log2 < 1000 := by rw [Int.natAbs_natCast]; exact l2
  have n2 : (textI (x.den : Int)).length ≤ 1001 := textI_len (by decide) l2'
  by_cases hx : x.den = 1
  · have bx : ((x.den : Int) == 1) = true := by rw [hx]; rfl
    unfold textF at hQ
    rw [if_pos hx] at hQ
    have e : textI x.num ++ ("" : Str) = textI x.num := Str.append_right_empty (by decide)
    rw [e] at hQ
    simp only [b_fraction_text, wpSs, wpS, wpOs, wpE, wpB, resolve, Opd.get, fr, r_at0, r_atS, Option.map_some, ex_some, o_toStr, o_idxt, a_0, a_1, o_eq, lay, eqD, truthD, true_and, bx, if_true]
    exact ⟨by omega, _, rfl, hQ⟩
  · have bx : ((x.den : Int) == 1) = false := by
      rw [beq_eq_false_iff_ne]
      omega
    unfold textF at hQ
    rw [if_neg hx] at hQ
    have e : ((Str.empty ++ textI x.num) ++ ("/" : Str)) ++ textI (x.den : Int) = textI x.num ++ (("/" : Str) ++ textI x.den) := by
      have z : Str.empty ++ textI x.num = textI x.num := Str.append_left_empty (by decide)
      rw [z, Str.append_assoc]
    have f1 : fmt1 (.int x.num) = some (textI x.num) := by
      show (if x.num.natAbs.log2 < 1920 then some (textI x.num) else none) = _
      rw [if_pos (by omega)]
    have f2 : fmt1 (.int (x.den : Int)) = some (textI x.den) := by
      show (if (x.den : Int).natAbs.log2 < 1920 then some (textI x.den) else none) = _
      rw [if_pos (by omega)]
    have f3 : fmt1 (.str "/") = some ("/" : Str) := by decide
    have e0 : (Str.empty).length = 0 := by decide
    simp only [b_fraction_text, wpSs, wpS, wpOs, wpE, wpF, wpB, resolve, Opd.get, fr, r_at0, r_atS, Option.map_some, ex_some, o_toStr, o_idxt, a_0, a_1, o_eq, lay, eqD, truthD, true_and, bx, if_false, Bool.false_eq_true, f1, f2, f3, app_len, slash_len, e0]
    refine ⟨by simp only [line]; omega, by simp only [line]; omega, by simp only [line]; omega, _, rfl, ?_⟩
    rw [e]
    exact hQ
end Lw
end Ev
set_option Elab.async false
set_option linter.all false
set_option autoImplicit false
set_option maxRecDepth 100000
set_option maxHeartbeats 1000000
/-! texts of numbers: plain law -/
namespace Ev
open PySem
theorem tw_all {α : Type} (p : α → Bool) : ∀ l : List α, (∀ c ∈ l, p c = true) → l.takeWhile p = l
  | [], _ => rfl
  | a :: l, h => by
    rw [List.takeWhile_cons, h a (List.mem_cons_self ..), if_pos rfl, tw_all p l fun c hc => h c (List.mem_cons_of_mem _ hc)]
theorem tw_split {α : Type} (p : α → Bool) : ∀ l : List α, (¬ ∀ c ∈ l, p c = true) → ∃ c r, l = l.takeWhile p ++ c :: r ∧ p c = false
  | [], h => (h fun c hc => by cases hc).elim
  | a :: l, h => by
    cases q : p a with
    | false => exact ⟨a, l, by rw [List.takeWhile_cons, q]; rfl, q⟩
    | true =>
      obtain ⟨c, r, e, hc⟩ := tw_split p l fun z => h fun c hc => (List.mem_cons.mp hc).elim (fun e => by rw [e]; exact q) (z c)
      refine ⟨c, r, ?_, hc⟩
      rw [List.takeWhile_cons, q, if_pos rfl, List.cons_append, ← e]
theorem tw_le {α : Type} (p : α → Bool) : ∀ l : List α, (l.takeWhile p).length ≤ l.length
  | [] => Nat.le_refl _
  | a :: l => by
    rw [List.takeWhile_cons]
    split
    · simpa using tw_le p l
    · simp
theorem tw_last {α : Type} (p : α → Bool) (c : α) (hc : p c = false) : ∀ l : List α, ((l ++ [c]).takeWhile p).length ≤ l.length
  | [] => by
    rw [List.nil_append, List.takeWhile_cons, hc]
    simp
  | a :: l => by
    rw [List.cons_append, List.takeWhile_cons]
    split
    · simpa using tw_last p c hc l
    · simp
theorem strip_all (x y : Str) : (Txt.stripChars x y).length = 0 ↔ ∀ c ∈ x.cps.toList, y.cps.contains c = true := by
  unfold Txt.stripChars
  rw [PyProof.Rows.stripBy_eq]
  have hl : x.cps.toList.length = x.length := by simp [Str.length]
  have hs : ∀ lo hi : Nat, (Builtin.Str.strSub x lo hi).length = min hi x.length - lo := fun lo hi => by
    show (x.cps.extract lo hi).size = _
    rw [Array.size_extract]
    rfl
  rw [hs]
  unfold stripHi stripLo
  simp only [if_true]
  constructor
  · intro h
    apply Classical.byContradiction
    intro n
    obtain ⟨c, r, e, hc⟩ := tw_split _ _ n
    have l1 : (x.cps.toList.takeWhile y.cps.contains).length + (r.length + 1) = x.length := by
      rw [← hl]
      conv => rhs; rw [e]
      simp
    have dr : x.cps.toList.drop (x.cps.toList.takeWhile y.cps.contains).length = c :: r := by
      conv => lhs; rw [e]
      have : (List.takeWhile y.cps.contains (List.takeWhile y.cps.contains x.cps.toList ++ c :: r)).length = (List.takeWhile y.cps.contains x.cps.toList).length := by rw [← e]
      rw [this, List.drop_append]
      simp
    rw [dr, List.reverse_cons] at h
    have := tw_last y.cps.contains c hc r.reverse
    rw [List.length_reverse] at this
    omega
  · intro h
    rw [tw_all _ _ h, hl]
    omega
/-- one sign at the front -/
theorem starts_one (z : Str) (c : Nat) : Txt.startswith z ⟨#[c]⟩ = (z.cps.toList.head? == some c) := by
  obtain ⟨⟨l⟩⟩ := z
  cases l with
  | nil => rfl
  | cons a l =>
    show (decide (0 + 1 ≤ (a :: l).toArray.size) && ((a :: l).toArray.extract 0 (0 + 1) == #[c])) = _
    have e : (a :: l).toArray.extract 0 (0 + 1) = #[a] := by simp
    rw [e, decide_eq_true (by simp)]
    simp
def dig (c : Nat) : Bool := decide (48 ≤ c) && decide (c ≤ 57)
def figL : List Nat → Bool
  | [] => false
  | c :: r => (dig c && r.all dig) && (c != 48 || r.isEmpty)
def valL (l : List Nat) : Int := ((NumText.digitsVal l : Nat) : Int)
end Ev
set_option Elab.async false
set_option linter.all false
set_option autoImplicit false
set_option maxRecDepth 100000
set_option maxHeartbeats 1000000
namespace Ev
namespace Lw
open PySem
/-! figures -/
def okS (z : Str) : Prop := z.cps.all (· < 0x110000) = true ∧ z.length ≤ 640
def figS (z : Str) : D := if figL z.cps.toList = true then .int (valL z.cps.toList) else .non
def rFig (ds : List D) (r : Val) : Prop := ∃ z : Str, ds = [.str z] ∧ okS z ∧ r = (.imm, figS z)
theorem o_strip {a b : Str} {P : Val → Prop} : opP .stripC [.str a, .str b] P = (a.length ≤ line ∧ P (.imm, .str (Txt.stripChars a b))) := rfl
theorem o_starts {a b : Str} {P : Val → Prop} : opP .startsw [.str a, .str b] P = P (.imm, .bl (Txt.startswith a b)) := rfl
theorem o_toIntS {a : Str} {P : Val → Prop} : opP .toIntS [.str a] P = ∃ n, intText? a = some n ∧ a.length ≤ 640 ∧ P (.imm, .int n) := rfl
theorem eqS (a b : Str) : eqD (.str a) (.str b) = (a == b) := rfl
theorem str_nil (z : Str) : (z == ("" : Str)) = z.cps.toList.isEmpty := by
  obtain ⟨⟨l⟩⟩ := z
  cases l with
  | nil => rfl
  | cons a l =>
    have : ((⟨(a :: l).toArray⟩ : Str) == ("" : Str)) = false := by
      rw [beq_eq_false_iff_ne]
      intro h
      have := congrArg (fun s : Str => s.cps.size) h
      have e : ("" : Str).cps.size = 0 := by decide
      rw [e] at this
      simp at this
    rw [this]
    rfl
theorem len_nil (z : Str) : (z == ("" : Str)) = (z.length == 0) := by
  rw [str_nil]
  obtain ⟨⟨l⟩⟩ := z
  cases l <;> rfl
theorem fig_digs {c : Nat} : ("0123456789" : Str).cps.contains c = true ↔ dig c = true := by
  have e : ("0123456789" : Str).cps = #[48, 49, 50, 51, 52, 53, 54, 55, 56, 57] := by decide +kernel
  rw [e]
  unfold dig
  simp
  omega
theorem int_fig {z : Str} (h : figL z.cps.toList = true) (hz : z.length ≤ 640) : intText? z = some (valL z.cps.toList) := by
  have hd : NumText.AllDigits z.cps.toList := by
    intro c hc
    cases q : z.cps.toList with
    | nil => rw [q] at hc; cases hc
    | cons a l =>
      rw [q] at h hc
      have h : ((dig a && l.all dig) && (a != 48 || l.isEmpty)) = true := h
      simp only [Bool.and_eq_true, List.all_eq_true] at h
      have hdig : ∀ x, dig x = true → 48 ≤ x ∧ x ≤ 57 := fun x hx => by
        unfold dig at hx
        simpa using hx
      rcases List.mem_cons.mp hc with e | hc
      · rw [e]; exact hdig a h.1.1
      · exact hdig c (h.1.2 c hc)
  refine intText_digits hd (fun e => ?_) (by omega)
  rw [e] at h
  cases h
theorem figL_cons (c : Nat) (r : List Nat) : figL (c :: r) = ((dig c && r.all dig) && (c != 48 || r.isEmpty)) := rfl
theorem sub_all {z : Str} {lo hi : Nat} (h : z.cps.all (· < 0x110000) = true) : lay 60 (.str (Builtin.Str.strSub z lo hi)) = true := by
  show (z.cps.extract lo hi).all (· < 0x110000) = true
  rw [Array.all_eq_true] at h ⊢
  intro i hi'
  rw [Array.getElem_extract]
  exact h _ _
theorem fig_ok (G : Glob) (hc : G.cst 0 = some (.str "0123456789")) (as : List Val) (Q : Val → List Val → Prop) (X : D → List Val → Prop) (h : fnT rFig as Q X) : runF G 1 0 b__read_figures as Q X := by
  obtain ⟨ds, r, rfl, ⟨z, rfl, ⟨ok, hz⟩, rfl⟩, hQ⟩ := h
  refine ⟨rfl, ?_⟩
  show wpSs G b__read_figures [some (.imm, .str z)] _
  have l0 : lay 60 (.str ("" : Str)) = true := by decide +kernel
  have lz : lay 60 (.str z) = true := ok
  have lst : ∀ y, lay 60 (.str (Txt.stripChars z y)) = true := fun y => by
    unfold Txt.stripChars
    rw [PyProof.Rows.stripBy_eq]
    exact sub_all ok
  have hzl : z.length ≤ line := by simp only [line]; omega
  cases q : z.cps.toList with
  | nil =>
    have e1 : (z == ("" : Str)) = true := by rw [str_nil, q]; rfl
    have hQ : Q (.imm, .non) [(.imm, .str z)] := by
      unfold figS at hQ
      rw [q] at hQ
      exact hQ
    simp only [b__read_figures, wpSs, wpS, wpOs, wpE, wpB, resolve, Opd.get, r_at0, r_atS, Option.map_some, ex_some, o_eq, eqS, l0, lz, e1, truthD, true_and, if_true]
    exact ⟨_, rfl, hQ⟩
  | cons a l =>
    have e1 : (z == ("" : Str)) = false := by rw [str_nil, q]; rfl
    have hs : Txt.startswith z "0" = (a == 48) := by
      have e : ("0" : Str) = ⟨#[48]⟩ := by decide +kernel
      rw [e, starts_one, q]
      simp
    have hlen : z.length = l.length + 1 := by
      have : z.cps.toList.length = z.length := by simp [Str.length]
      rw [← this, q]
      rfl
    by_cases hd : ∀ c ∈ z.cps.toList, dig c = true
    · have e2 : (Txt.stripChars z "0123456789" == ("" : Str)) = true := by
        rw [len_nil, beq_iff_eq]
        exact (strip_all z _).mpr fun c hc => fig_digs.mpr (hd c hc)
      have hdl : (dig a && l.all dig) = true := by
        rw [q] at hd
        rw [Bool.and_eq_true, List.all_eq_true]
        exact ⟨hd a (List.mem_cons_self ..), fun c hc => hd c (List.mem_cons_of_mem _ hc)⟩
      by_cases h48 : a = 48
      · by_cases hl : l = []
        · subst hl
          have hf : figL z.cps.toList = true := by
            rw [q, figL_cons, hdl, h48]
            rfl
          have hQ : Q (.imm, .int (valL z.cps.toList)) [(.imm, .str z)] := by
            unfold figS at hQ
            rw [if_pos hf] at hQ
            exact hQ
          have c1 : (decide ((1 : Int) < (z.length : Int))) = false := decide_eq_false (by rw [hlen]; simp)
          have e48 : (a == 48) = true := by simpa using h48
          simp only [b__read_figures, wpSs, wpS, wpOs, wpE, wpB, resolve, Opd.get, r_at0, r_atS, Option.map_some, ex_some, o_eq, o_ne, o_strip, o_starts, o_lens, o_gt, o_toIntS, hc, eqS, l0, lz, lst, e1, e2, hs, e48, c1, truthD, true_and, if_true, if_false, Bool.false_eq_true, Bool.not_true]
          exact ⟨hzl, hzl, _, int_fig hf hz, hz, _, rfl, hQ⟩
        · have hf : figL z.cps.toList = false := by
            rw [q, figL_cons, hdl, h48]
            cases l with
            | nil => exact (hl rfl).elim
            | cons _ _ => rfl
          have hQ : Q (.imm, .non) [(.imm, .str z)] := by
            unfold figS at hQ
            rw [hf] at hQ
            exact hQ
          have c1 : (decide ((1 : Int) < (z.length : Int))) = true := decide_eq_true (by
            rw [hlen]
            cases l with
            | nil => exact (hl rfl).elim
            | cons _ _ => simp; omega)
          have e48 : (a == 48) = true := by simpa using h48
          simp only [b__read_figures, wpSs, wpS, wpOs, wpE, wpB, resolve, Opd.get, r_at0, r_atS, Option.map_some, ex_some, o_eq, o_ne, o_strip, o_starts, o_lens, o_gt, o_toIntS, hc, eqS, l0, lz, lst, e1, e2, hs, e48, c1, truthD, true_and, if_true, if_false, Bool.false_eq_true, Bool.not_true]
          exact ⟨hzl, hzl, _, rfl, hQ⟩
      · have hf : figL z.cps.toList = true := by
          rw [q, figL_cons, hdl]
          simp [h48]
        have hQ : Q (.imm, .int (valL z.cps.toList)) [(.imm, .str z)] := by
          unfold figS at hQ
          rw [if_pos hf] at hQ
          exact hQ
        have e48 : (a == 48) = false := by simpa using h48
        simp only [b__read_figures, wpSs, wpS, wpOs, wpE, wpB, resolve, Opd.get, r_at0, r_atS, Option.map_some, ex_some, o_eq, o_ne, o_strip, o_starts, o_lens, o_gt, o_toIntS, hc, eqS, l0, lz, lst, e1, e2, hs, e48, truthD, true_and, if_true, if_false, Bool.false_eq_true, Bool.not_true]
        exact ⟨hzl, _, int_fig hf hz, hz, _, rfl, hQ⟩
    · have e2 : (Txt.stripChars z "0123456789" == ("" : Str)) = false := by
        rw [len_nil, beq_eq_false_iff_ne]
        exact fun h => hd fun c hc => fig_digs.mp ((strip_all z _).mp h c hc)
      have hf : figL z.cps.toList = false := by
        cases hh : figL z.cps.toList with
        | false => rfl
        | true =>
          exfalso
          apply hd
          intro c hc
          rw [q] at hh hc
          rw [figL_cons] at hh
          simp only [Bool.and_eq_true, List.all_eq_true] at hh
          rcases List.mem_cons.mp hc with e | hc
          · rw [e]; exact hh.1.1
          · exact hh.1.2 c hc
      have hQ : Q (.imm, .non) [(.imm, .str z)] := by
        unfold figS at hQ
        rw [hf] at hQ
        exact hQ
      simp only [b__read_figures, wpSs, wpS, wpOs, wpE, wpB, resolve, Opd.get, r_at0, r_atS, Option.map_some, ex_some, o_eq, o_ne, o_strip, o_starts, hc, eqS, l0, lz, lst, e1, e2, truthD, true_and, if_true, if_false, Bool.false_eq_true, Bool.not_false]
      exact ⟨hzl, _, rfl, hQ⟩
end Lw
end Ev
set_option Elab.async false
set_option linter.all false
set_option autoImplicit false
set_option maxRecDepth 100000
set_option maxHeartbeats 1000000
namespace Ev
namespace Lw
open PySem
/-! _law_is_figures -/
def rFigB (ds : List D) (r : Val) : Prop := ∃ z : Str, ds = [.str z] ∧ okS z ∧ r = (.imm, .bl (figL z.cps.toList))
theorem o_inS {a z : Str} {P : Val → Prop} : opP .inS [.str a, .str z] P = ∃ c, a = ⟨#[c]⟩ ∧ P (.imm, .bl (decide (c ∈ z.cps.toList))) := rfl
theorem dig_mem (c : Nat) : decide (c ∈ ("0123456789" : Str).cps.toList) = dig c := by
  have e : ("0123456789" : Str).cps.toList = [48, 49, 50, 51, 52, 53, 54, 55, 56, 57] := by decide +kernel
  rw [e]
  unfold dig
  rw [← Bool.decide_and]
  congr 1
  apply propext
  simp
  omega
/-- the comprehension's turns -/
theorem figs_for {G : Glob} {z : Str} {nx : List D × Rho → Prop} : ∀ (l : List Nat) (acc : List D), nx (acc ++ l.map (fun c => D.bl (dig c)), [some (.imm, .str z), none]) →
    forP (α := List D × Rho) (fun d a K => asgTg (.v 1) (.imm, d) a.2 fun ρ1 => wpB G .tt ρ1 (fun k ρ2 =>
          if k = true then wpE G (.op .inS (.v 1 (.e (.cst (.str "0123456789")) .nil))) ρ2 (fun v ρ3 => K (a.1 ++ [v.2], ρ3.wipe [1])) (fun _ _ => False) else K (a.1, ρ2.wipe [1])) (fun _ _ => False))
        nx (l.map fun c => D.str ⟨#[c]⟩) (acc, [some (.imm, .str z), none])
  | [], acc, h => by
    rw [List.map_nil, List.append_nil] at h
    exact h
  | c :: l, acc, h => by
    have ih := figs_for (G := G) (nx := nx) l (acc ++ [.bl (dig c)]) (by simpa using h)
    rw [List.map_cons]
    simp only [forP, asgTg, wpB, wpE, wpOs, resolve, Opd.get, r_at0, r_atS, r_put0, r_putS, Option.map_some, ex_some, o_inS, if_true]
    refine ⟨c, rfl, ?_⟩
    rw [dig_mem]
    exact ih
theorem bools_map (l : List Nat) : bools? (l.map fun c => D.bl (dig c)) = some (l.map dig) := by
  induction l with
  | nil => rfl
  | cons c l ih =>
    show (bools? (l.map fun c => D.bl (dig c))).map (dig c :: ·) = _
    rw [ih]
    rfl
theorem one_str (z : Str) (c : Nat) : (z == (⟨#[c]⟩ : Str)) = (z.cps.toList == [c]) := by
  obtain ⟨⟨l⟩⟩ := z
  cases h : ((⟨⟨l⟩⟩ : Str) == (⟨#[c]⟩ : Str)) with
  | true =>
    have e := eq_of_beq h
    have e : l = [c] := by
      have := congrArg (fun s : Str => s.cps.toList) e
      exact this
    subst e
    simp
  | false =>
    symm
    rw [beq_eq_false_iff_ne] at h ⊢
    intro e
    have e : l = [c] := e
    subst e
    exact h rfl
theorem o_or {P : Prop} : (if true = true then P else P) = P := if_pos rfl
theorem lfig_ok (G : Glob) (as : List Val) (Q : Val → List Val → Prop) (X : D → List Val → Prop) (h : fnT rFigB as Q X) : runF G 1 1 b__law_is_figures as Q X := by
  obtain ⟨ds, r, rfl, ⟨z, rfl, ⟨ok, hz⟩, rfl⟩, hQ⟩ := h
  refine ⟨rfl, ?_⟩
  show wpSs G b__law_is_figures [some (.imm, .str z), none] _
  have l0 : lay 60 (.str ("" : Str)) = true := by decide +kernel
  have l1 : lay 60 (.str ("0" : Str)) = true := by decide +kernel
  have lz : lay 60 (.str z) = true := ok
  have hzl : z.length ≤ line := by simp only [line]; omega
  have z0 : ("0" : Str) = ⟨#[48]⟩ := by decide +kernel
  have hlen : z.cps.toList.length = z.length := by simp [Str.length]
  cases q : z.cps.toList with
  | nil =>
    have e1 : (z == ("" : Str)) = true := by rw [str_nil, q]; rfl
    have hQ : Q (.imm, .bl false) [(.imm, .str z)] := by
      rw [q] at hQ
      exact hQ
    simp only [b__law_is_figures, wpSs, wpS, wpOs, wpE, wpB, resolve, Opd.get, r_at0, r_atS, Option.map_some, ex_some, o_eq, eqS, l0, lz, e1, truthD, true_and, if_true]
    exact ⟨_, rfl, hQ⟩
  | cons a l =>
    have e1 : (z == ("" : Str)) = false := by rw [str_nil, q]; rfl
    simp only [b__law_is_figures, wpSs, wpS, wpOs, wpE, wpB, wpIt, wipeB, Rho.wipe, resolve, Opd.get, r_at0, r_atS, r_put0, r_putS, Option.map_some, ex_some, o_eq, eqS, l0, lz, e1, truthD, true_and, if_false, Bool.false_eq_true, Rho.leak, Bool.and_self]
    refine ⟨by unfold charsD; rw [List.length_map, hlen]; exact hzl, ?_⟩
    refine figs_for (G := G) (z := z) z.cps.toList [] ?_
    rw [List.nil_append]
    simp only [resolve, Opd.get, ex_some, o_all]
    refine ⟨_, bools_map _, ?_⟩
    have ea : (List.map dig z.cps.toList).all id = (dig a && l.all dig) := by
      rw [q, List.map_cons, List.all_cons, List.all_map]
      rfl
    rw [ea]
    rw [q, figL_cons] at hQ
    cases hd : (dig a && l.all dig) with
    | false =>
      rw [hd, Bool.false_and] at hQ
      simp only [Bool.not_false, if_true]
      exact ⟨_, rfl, hQ⟩
    | true =>
      rw [hd, Bool.true_and] at hQ
      have ei : (z == ("0" : Str)) = (a == 48 && l.isEmpty) := by
        rw [z0, one_str, q]
        cases l <;> simp
      have l2 : lay 60 (.str (⟨#[a]⟩ : Str)) = true := by
        show (#[a] : Array Nat).all (· < 0x110000) = true
        have : z.cps.toList.all (· < 0x110000) = true := by
          rw [← ok]
          simp
        rw [q, List.all_cons, Bool.and_eq_true] at this
        simpa using this.1
      have e2 : ((⟨#[a]⟩ : Str) == ("0" : Str)) = (a == 48) := by
        rw [z0, one_str]
        simp
      have at0 : atI z.cps.toList 0 = some a := by
        rw [q]
        exact a_0
      simp only [Bool.not_true, Bool.false_eq_true, if_false, r_at0, Option.map_some, ex_some, o_eq, eqS, ei, l1, lz, true_and, bl_and, o_idxs, at0, o_ne, l2, e2]
      cases h48 : (a == 48) with
      | true =>
        rw [show (a != 48) = false by simp [bne, h48], Bool.false_or] at hQ
        simp only [Bool.true_and]
        cases hl : l.isEmpty with
        | true =>
          rw [hl] at hQ
          simp only [if_true]
          exact ⟨_, rfl, hQ⟩
        | false =>
          rw [hl] at hQ
          simp only [Bool.false_eq_true, if_false, Bool.not_true]
          exact ⟨hzl, _, rfl, hQ⟩
      | false =>
        rw [show (a != 48) = true by simp [bne, h48], Bool.true_or] at hQ
        simp only [Bool.false_and, Bool.false_eq_true, if_false, Bool.not_false]
        exact ⟨hzl, _, rfl, hQ⟩
end Lw
end Ev
set_option Elab.async false
set_option linter.all false
set_option autoImplicit false
set_option maxRecDepth 100000
set_option maxHeartbeats 1000000
namespace Ev
namespace Lw
open PySem
/-! _read_number -/
def optD : Option Int → D
  | some n => .int n
  | none => .non
def figO (l : List Nat) : Option Int := if figL l = true then some (valL l) else none
def minusO : Option Int → Option Int
  | some n => if n = 0 then none else some (-n)
  | none => none
def numO (l : List Nat) : Option Int := if l.head? = some 45 then minusO (figO l.tail) else figO l
theorem figS_eq (z : Str) : figS z = optD (figO z.cps.toList) := by
  unfold figS figO
  split <;> rfl
theorem t_fig {z : Str} {Q : Val → List Val → Prop} {X : D → List Val → Prop} (ok : okS z) (h : Q (.imm, optD (figO z.cps.toList)) [(.imm, .str z)]) : fnT rFig [(.imm, .str z)] Q X :=
  ⟨[.str z], _, rfl, ⟨z, rfl, ok, by rw [figS_eq]⟩, h⟩
theorem cut_tail {z : Str} : (cutT z (some 1) none).cps.toList = z.cps.toList.tail := by
  unfold cutT cut
  obtain ⟨⟨l⟩⟩ := z
  show (l.drop (sIx l.length 0 (some 1))).take (sIx l.length l.length none - sIx l.length 0 (some 1)) = l.tail
  have e1 : sIx l.length 0 (some 1) = min 1 l.length := rfl
  have e2 : sIx l.length l.length none = l.length := rfl
  rw [e1, e2]
  cases l with
  | nil => rfl
  | cons a l =>
    have e3 : min 1 (a :: l).length = 1 := by simp
    rw [e3]
    simp
theorem ok_tail {z : Str} (h : okS z) : okS (cutT z (some 1) none) := by
  have e := cut_tail (z := z)
  obtain ⟨h1, h2⟩ := h
  have h1' : ∀ c ∈ z.cps.toList, c < 0x110000 := by
    have : z.cps.toList.all (· < 0x110000) = true := by
      rw [← h1]
      simp
    intro c hc
    have := List.all_eq_true.mp this c hc
    simpa using this
  refine ⟨?_, ?_⟩
  · have : (cutT z (some 1) none).cps.toList.all (· < 0x110000) = true := by
      rw [e, List.all_eq_true]
      intro c hc
      simpa using h1' c (List.mem_of_mem_tail hc)
    rw [← this]
    simp
  · have l1 : (cutT z (some 1) none).length = (cutT z (some 1) none).cps.toList.length := by simp [Str.length]
    have l2 : z.length = z.cps.toList.length := by simp [Str.length]
    rw [l1, e, List.length_tail]
    omega
def rNum (ds : List D) (r : Val) : Prop := ∃ z : Str, ds = [.str z] ∧ okS z ∧ r = (.imm, optD (numO z.cps.toList))
theorem o_sl10 {z : Str} {i : Int} {P : Val → Prop} : opP (.slcS true false) [.str z, .int i] P = (z.length ≤ line ∧ P (.imm, .str (cutT z (some i) none))) := rfl
theorem o_sl01 {z : Str} {i : Int} {P : Val → Prop} : opP (.slcS false true) [.str z, .int i] P = (z.length ≤ line ∧ P (.imm, .str (cutT z none (some i)))) := rfl
theorem num_ok (G : Glob) (h3 : G.fn 3 = fnT rFig) (as : List Val) (Q : Val → List Val → Prop) (X : D → List Val → Prop) (h : fnT rNum as Q X) : runF G 1 1 b__read_number as Q X := by
  obtain ⟨ds, r, rfl, ⟨z, rfl, ok, rfl⟩, hQ⟩ := h
  refine ⟨rfl, ?_⟩
  show wpSs G b__read_number [some (.imm, .str z), none] _
  have hzl : z.length ≤ line := by have := ok.2; simp only [line]; omega
  have hs : Txt.startswith z "-" = (z.cps.toList.head? == some 45) := by
    have e : ("-" : Str) = ⟨#[45]⟩ := by decide +kernel
    rw [e, starts_one]
  by_cases c : z.cps.toList.head? = some 45
  · have hb : (z.cps.toList.head? == some 45) = true := by rw [c]; rfl
    unfold numO at hQ
    rw [if_pos c] at hQ
    simp only [b__read_number, wpSs, wpS, wpOs, wpE, wpB, resolve, Opd.get, argsOf, Opd.arg, argF, ownIx, nodupB, putOuts, h3, r_at0, r_atS, r_put0, r_putS, Option.map_some, ex_some, o_starts, o_sl10, hs, hb, truthD, true_and, Bool.not_true, Bool.false_eq_true, if_false]
    refine ⟨hzl, t_fig (ok_tail ok) ?_⟩
    rw [cut_tail]
    cases q : figO z.cps.toList.tail with
    | none =>
      rw [q] at hQ
      simp only [optD, putOuts, asgTg, wpB, wpE, wpOs, wpS, wpSs, resolve, Opd.get, r_at0, r_atS, r_put0, r_putS, Option.map_some, ex_some, o_isN, truthD, if_true]
      exact ⟨_, rfl, hQ⟩
    | some n =>
      rw [q] at hQ
      by_cases n0 : n = 0
      · have e0 : (n == 0) = true := by simpa using n0
        have hQ : Q (.imm, .non) [(.imm, .str z)] := by
          have e : minusO (some n) = none := if_pos n0
          rw [e] at hQ
          exact hQ
        simp only [optD, putOuts, asgTg, wpB, wpE, wpOs, wpS, wpSs, resolve, Opd.get, r_at0, r_atS, r_put0, r_putS, Option.map_some, ex_some, o_isN, o_eq, eqD, lay, e0, truthD, true_and, if_true, Bool.false_eq_true, if_false]
        exact ⟨_, rfl, hQ⟩
      · have e0 : (n == 0) = false := by simpa using n0
        have hQ : Q (.imm, .int (-n)) [(.imm, .str z)] := by
          have e : minusO (some n) = some (-n) := if_neg n0
          rw [e] at hQ
          exact hQ
        simp only [optD, putOuts, asgTg, wpB, wpE, wpOs, wpS, wpSs, resolve, Opd.get, r_at0, r_atS, r_put0, r_putS, Option.map_some, ex_some, o_isN, o_eq, o_neg, eqD, lay, e0, truthD, true_and, if_true, Bool.false_eq_true, if_false]
        exact ⟨_, rfl, hQ⟩
  · have hb : (z.cps.toList.head? == some 45) = false := by
      rw [beq_eq_false_iff_ne]
      exact c
    unfold numO at hQ
    rw [if_neg c] at hQ
    simp only [b__read_number, wpSs, wpS, wpOs, wpE, wpB, resolve, Opd.get, argsOf, Opd.arg, argF, ownIx, nodupB, putOuts, h3, r_at0, r_atS, r_put0, r_putS, Option.map_some, ex_some, o_starts, hs, hb, truthD, true_and, Bool.not_false, if_true]
    exact t_fig ok ⟨_, rfl, hQ⟩
end Lw
end Ev
set_option Elab.async false
set_option linter.all false
set_option autoImplicit false
set_option maxRecDepth 100000
set_option maxHeartbeats 1000000
namespace Ev
namespace Lw
open PySem
theorem ok_sub {z : Str} (h : okS z) (i j : Nat) : okS (Builtin.Str.strSub z i j) := by
  refine ⟨sub_all h.1, ?_⟩
  show (z.cps.extract i j).size ≤ 640
  rw [Array.size_extract]
  have h2 : z.cps.size ≤ 640 := h.2
  omega
theorem ok_empty : okS Str.empty := ⟨by decide +kernel, by decide⟩
theorem ok_slash : okS ("/" : Str) := ⟨by decide +kernel, by decide⟩
theorem ok_part {z : Str} (h : okS z) : okS (Txt.partition z "/").1 ∧ okS (Txt.partition z "/").2.1 ∧ okS (Txt.partition z "/").2.2 := by
  rcases PyProof.Rows.partition_whole z "/" with ⟨e, _⟩ | ⟨i, e, _⟩
  · rw [e]
    exact ⟨h, ok_empty, ok_empty⟩
  · rw [e]
    exact ⟨ok_sub h _ _, ok_slash, ok_sub h _ _⟩
/-- what a text is read as -/
def readS (z : Str) : D :=
  match numO (Txt.partition z "/").1.cps.toList with
  | none => .non
  | some n => if (Txt.partition z "/").2.1 = ("" : Str) then .tup [.int n, .int 1] else
    match figO (Txt.partition z "/").2.2.cps.toList with
    | none => .non
    | some m => if 2 ≤ m ∧ Nat.gcd n.natAbs m.natAbs = 1 then .tup [.int n, .int m] else .non
def readD : D → D
  | .str z => readS z
  | _ => .non
def okW : D → Prop
  | .str z => okS z
  | _ => True
def rRead (ds : List D) (r : Val) : Prop := ∃ d, ds = [d] ∧ okW d ∧ r = (.imm, readD d)
theorem t_num {z : Str} {Q : Val → List Val → Prop} {X : D → List Val → Prop} (ok : okS z) (h : Q (.imm, optD (numO z.cps.toList)) [(.imm, .str z)]) : fnT rNum [(.imm, .str z)] Q X :=
  ⟨[.str z], _, rfl, ⟨z, rfl, ok, rfl⟩, h⟩
theorem o_part {a b : Str} {P : Val → Prop} : opP .part [.str a, .str b] P = (b.length ≠ 0 ∧ a.length ≤ line ∧ P (.imm, .tup [.str (Txt.partition a b).1, .str (Txt.partition a b).2.1, .str (Txt.partition a b).2.2])) := rfl
theorem strTy (d : D) : hasTy .str d = true → ∃ z, d = .str z := by cases d <;> first | exact fun _ => ⟨_, rfl⟩ | (intro h; cases h)
theorem read_ok (G : Glob) (h3 : G.fn 3 = fnT rFig) (h4 : G.fn 4 = fnT rNum) (as : List Val) (Q : Val → List Val → Prop) (X : D → List Val → Prop) (h : fnT rRead as Q X) : runF G 1 5 b_read_fraction as Q X := by
  obtain ⟨ds, r, rfl, ⟨d, rfl, ok, rfl⟩, hQ⟩ := h
  refine ⟨rfl, ?_⟩
  show wpSs G b_read_fraction [some (.imm, d), none, none, none, none, none] _
  cases ht : hasTy .str d with
  | false =>
    have e : readD d = .non := by cases d <;> first | rfl | (cases ht; done)
    rw [e] at hQ
    simp only [b_read_fraction, wpSs, wpS, wpOs, wpE, wpB, resolve, Opd.get, r_at0, r_atS, r_put0, r_putS, Option.map_some, ex_some, o_isi, List.any_cons, List.any_nil, Bool.or_false, ht, truthD, Bool.not_false, if_true]
    exact ⟨_, rfl, hQ⟩
  | true =>
    obtain ⟨z, rfl⟩ := strTy d ht
    have ok : okS z := ok
    have hQ : Q (.imm, readS z) [(.imm, .str z)] := hQ
    obtain ⟨o1, o2, o3⟩ := ok_part ok
    have hzl : z.length ≤ line := by have := ok.2; simp only [line]; omega
    have l0 : lay 60 (.str ("" : Str)) = true := by decide +kernel
    have sl : (("/" : Str)).length ≠ 0 := by decide
    obtain ⟨p1, p2, p3, hpp⟩ : ∃ p1 p2 p3, Txt.partition z "/" = (p1, p2, p3) := ⟨_, _, _, rfl⟩
    unfold readS at hQ
    rw [hpp] at hQ o1 o2 o3
    have o1 : okS p1 := o1
    have o2 : okS p2 := o2
    have o3 : okS p3 := o3
    have lp2 : lay 60 (.str p2) = true := o2.1
    simp only [b_read_fraction, o_isi, List.any_cons, List.any_nil, Bool.or_false, ht, h4, hpp, wpSs, wpS, wpOs, wpE, wpB, wpTs, resolve, Opd.get, argsOf, Opd.arg, argF, ownIx, nodupB, putOuts, asgTg, asgVs, Rho.leak, r_at0, r_atS, r_put0, r_putS, Option.map_some, ex_some, o_isN, o_eq, o_ne, o_lt, o_gcd, o_part, eqS, eqD, lay, truthD, true_and, Bool.not_true, Bool.not_false, Bool.false_eq_true, if_true, if_false, optD]
    refine ⟨sl, hzl, t_num o1 ?_⟩
    have hQ : Q (.imm, match numO p1.cps.toList with
      | none => .non
      | some n => if p2 = ("" : Str) then .tup [.int n, .int 1] else
        match figO p3.cps.toList with
        | none => .non
        | some m => if 2 ≤ m ∧ Nat.gcd n.natAbs m.natAbs = 1 then .tup [.int n, .int m] else .non) [(.imm, .str z)] := hQ
    cases q1 : numO p1.cps.toList with
    | none =>
      rw [q1] at hQ
      simp only [wpSs, wpS, wpOs, wpE, wpB, wpTs, resolve, Opd.get, argsOf, Opd.arg, argF, ownIx, nodupB, putOuts, asgTg, asgVs, Rho.leak, r_at0, r_atS, r_put0, r_putS, Option.map_some, ex_some, o_isN, o_eq, o_ne, o_lt, o_gcd, o_part, eqS, eqD, lay, truthD, true_and, Bool.not_true, Bool.not_false, Bool.false_eq_true, if_true, if_false, optD]
      exact ⟨_, rfl, hQ⟩
    | some n =>
      rw [q1] at hQ
      have hQ : Q (.imm, if p2 = ("" : Str) then .tup [.int n, .int 1] else
        match figO p3.cps.toList with
        | none => .non
        | some m => if 2 ≤ m ∧ Nat.gcd n.natAbs m.natAbs = 1 then .tup [.int n, .int m] else .non) [(.imm, .str z)] := hQ
      by_cases e2 : p2 = ("" : Str)
      · rw [if_pos e2] at hQ
        have b2 : (p2 == ("" : Str)) = true := by rw [e2]; simp
        simp only [l0, lp2, b2, wpSs, wpS, wpOs, wpE, wpB, wpTs, resolve, Opd.get, argsOf, Opd.arg, argF, ownIx, nodupB, putOuts, asgTg, asgVs, Rho.leak, r_at0, r_atS, r_put0, r_putS, Option.map_some, ex_some, o_isN, o_eq, o_ne, o_lt, o_gcd, o_part, eqS, eqD, lay, truthD, true_and, Bool.not_true, Bool.not_false, Bool.false_eq_true, if_true, if_false, optD]
        exact ⟨o2.1, l0, _, rfl, hQ⟩
      · rw [if_neg e2] at hQ
        have b2 : (p2 == ("" : Str)) = false := by simpa using e2
        simp only [l0, lp2, b2, h3, wpSs, wpS, wpOs, wpE, wpB, wpTs, resolve, Opd.get, argsOf, Opd.arg, argF, ownIx, nodupB, putOuts, asgTg, asgVs, Rho.leak, r_at0, r_atS, r_put0, r_putS, Option.map_some, ex_some, o_isN, o_eq, o_ne, o_lt, o_gcd, o_part, eqS, eqD, lay, truthD, true_and, Bool.not_true, Bool.not_false, Bool.false_eq_true, if_true, if_false, optD]
        refine ⟨o2.1, l0, t_fig o3 ?_⟩
        cases q3 : figO p3.cps.toList with
        | none =>
          rw [q3] at hQ
          simp only [wpSs, wpS, wpOs, wpE, wpB, wpTs, resolve, Opd.get, argsOf, Opd.arg, argF, ownIx, nodupB, putOuts, asgTg, asgVs, Rho.leak, r_at0, r_atS, r_put0, r_putS, Option.map_some, ex_some, o_isN, o_eq, o_ne, o_lt, o_gcd, o_part, eqS, eqD, lay, truthD, true_and, Bool.not_true, Bool.not_false, Bool.false_eq_true, if_true, if_false, optD]
          exact ⟨_, rfl, hQ⟩
        | some m =>
          rw [q3] at hQ
          have hQ : Q (.imm, if 2 ≤ m ∧ Nat.gcd n.natAbs m.natAbs = 1 then .tup [.int n, .int m] else .non) [(.imm, .str z)] := hQ
          by_cases c1 : m < 2
          · rw [if_neg (by omega)] at hQ
            simp only [c1, decide_true, wpSs, wpS, wpOs, wpE, wpB, wpTs, resolve, Opd.get, argsOf, Opd.arg, argF, ownIx, nodupB, putOuts, asgTg, asgVs, Rho.leak, r_at0, r_atS, r_put0, r_putS, Option.map_some, ex_some, o_isN, o_eq, o_ne, o_lt, o_gcd, o_part, eqS, eqD, lay, truthD, true_and, Bool.not_true, Bool.not_false, Bool.false_eq_true, if_true, if_false, optD]
            exact ⟨_, rfl, hQ⟩
          · by_cases c2 : Nat.gcd n.natAbs m.natAbs = 1
            · rw [if_pos ⟨by omega, c2⟩] at hQ
              have b3 : (((Nat.gcd n.natAbs m.natAbs : Nat) : Int) == 1) = true := by rw [c2]; rfl
              simp only [c1, decide_false, b3, wpSs, wpS, wpOs, wpE, wpB, wpTs, resolve, Opd.get, argsOf, Opd.arg, argF, ownIx, nodupB, putOuts, asgTg, asgVs, Rho.leak, r_at0, r_atS, r_put0, r_putS, Option.map_some, ex_some, o_isN, o_eq, o_ne, o_lt, o_gcd, o_part, eqS, eqD, lay, truthD, true_and, Bool.not_true, Bool.not_false, Bool.false_eq_true, if_true, if_false, optD]
              exact ⟨_, rfl, hQ⟩
            · rw [if_neg (fun h => c2 h.2)] at hQ
              have b3 : (((Nat.gcd n.natAbs m.natAbs : Nat) : Int) == 1) = false := by
                rw [beq_eq_false_iff_ne]
                omega
              simp only [c1, decide_false, b3, wpSs, wpS, wpOs, wpE, wpB, wpTs, resolve, Opd.get, argsOf, Opd.arg, argF, ownIx, nodupB, putOuts, asgTg, asgVs, Rho.leak, r_at0, r_atS, r_put0, r_putS, Option.map_some, ex_some, o_isN, o_eq, o_ne, o_lt, o_gcd, o_part, eqS, eqD, lay, truthD, true_and, Bool.not_true, Bool.not_false, Bool.false_eq_true, if_true, if_false, optD]
              exact ⟨_, rfl, hQ⟩
end Lw
end Ev
set_option Elab.async false
set_option linter.all false
set_option autoImplicit false
set_option maxRecDepth 100000
set_option maxHeartbeats 1000000
namespace Ev
namespace Lw
open PySem
/-! _law_read -/
theorem foldl_pos : ∀ (l : List Nat) (a : Nat), 0 < a → 0 < l.foldl (fun acc c => acc * 10 + (c - 48)) a
  | [], a, h => h
  | c :: l, a, h => by
    rw [List.foldl_cons]
    exact foldl_pos l _ (by omega)
/-- only "0" has the value 0 -/
theorem val_zero {l : List Nat} (h : figL l = true) (hv : valL l = 0) : l = [48] := by
  cases l with
  | nil => cases h
  | cons c r =>
    rw [figL_cons] at h
    simp only [Bool.and_eq_true, Bool.or_eq_true, bne_iff_ne, ne_eq, List.isEmpty_iff] at h
    obtain ⟨⟨hc, hr⟩, h2⟩ := h
    have hc' : 48 ≤ c ∧ c ≤ 57 := by
      unfold dig at hc
      simpa using hc
    have hv' : ((c :: r).foldl (fun acc c => acc * 10 + (c - 48)) 0 : Nat) = 0 := by
      have : ((NumText.digitsVal (c :: r) : Nat) : Int) = 0 := hv
      have h3 : NumText.digitsVal (c :: r) = 0 := by omega
      exact h3
    by_cases e : c = 48
    · subst e
      rcases h2 with h2 | h2
      · exact (h2 rfl).elim
      · rw [h2]
    · rw [List.foldl_cons] at hv'
      have := foldl_pos r (0 * 10 + (c - 48)) (by omega)
      omega
theorem cut_head {z : Str} : (cutT z none (some 1)).cps.toList = z.cps.toList.take 1 := by
  unfold cutT cut
  obtain ⟨⟨l⟩⟩ := z
  show (l.drop (sIx l.length 0 none)).take (sIx l.length l.length (some 1) - sIx l.length 0 none) = l.take 1
  have e1 : sIx l.length 0 none = 0 := rfl
  have e2 : sIx l.length l.length (some 1) = min 1 l.length := rfl
  rw [e1, e2, List.drop_zero, Nat.sub_zero]
  cases l with
  | nil => rfl
  | cons a l =>
    have : min 1 (a :: l).length = 1 := by simp
    rw [this]
theorem head_minus (z : Str) : (cutT z none (some 1) == ("-" : Str)) = (z.cps.toList.head? == some 45) := by
  have e : ("-" : Str) = ⟨#[45]⟩ := by decide +kernel
  rw [e, one_str, cut_head]
  cases z.cps.toList with
  | nil => rfl
  | cons a l =>
    show ([a] == [45]) = (some a == some 45)
    by_cases h : a = 45
    · subst h; rfl
    · have h1 : ([a] == [45]) = false := by
        rw [beq_eq_false_iff_ne]
        intro e
        cases e
        exact h rfl
      have h2 : (some a == some 45) = false := by
        rw [beq_eq_false_iff_ne]
        intro e
        cases e
        exact h rfl
      rw [h1, h2]
theorem t_figB {z : Str} {Q : Val → List Val → Prop} {X : D → List Val → Prop} (ok : okS z) (h : Q (.imm, .bl (figL z.cps.toList)) [(.imm, .str z)]) : fnT rFigB [(.imm, .str z)] Q X :=
  ⟨[.str z], _, rfl, ⟨z, rfl, ok, rfl⟩, h⟩
theorem minus0 (z : Str) : (z == ("-0" : Str)) = (z.cps.toList == [45, 48]) := by
  have e : ("-0" : Str) = ⟨#[45, 48]⟩ := by decide +kernel
  rw [e]
  obtain ⟨⟨l⟩⟩ := z
  cases h : ((⟨⟨l⟩⟩ : Str) == (⟨#[45, 48]⟩ : Str)) with
  | true =>
    have e := eq_of_beq h
    have e : l = [45, 48] := congrArg (fun s : Str => s.cps.toList) e
    subst e
    simp
  | false =>
    symm
    rw [beq_eq_false_iff_ne] at h ⊢
    intro e
    have e : l = [45, 48] := e
    subst e
    exact h rfl
/-- the end of it, the top known -/
theorem lread_end (G : Glob) (h14 : G.fn 14 = fnT rFigB) (h7 : G.fn 7 = fnT rCommon) {K : Kont} {z p1 p2 p3 b : Str} {n : Int} (o2 : okS p2) (o3 : okS p3) {Q : D → Prop}
    (hQ : Q (if p2 = ("" : Str) then .tup [.int n, .int 1] else match figO p3.cps.toList with | none => .non | some m => if 2 ≤ m ∧ Nat.gcd n.natAbs m.natAbs = 1 then .tup [.int n, .int m] else .non))
    (hK : ∀ d, Q d → K.rt (.imm, d) [some (.imm, .str z), some (.imm, .str b), some (.imm, .int n), some (.imm, .str p1), some (.imm, .str p2), some (.imm, .str p3)]) :
    wpSs G (.cons (.ife (.t (.op .eq (.v 4 (.e (.cst (.str "")) .nil)))) (.cons (.ret (.tup (.cons (.var 2) (.cons (.cst (.int 1)) .nil)))) .nil) .nil) (.cons (.ife (.or_ (.not_ (.t (.call 14 (.v 5 .nil)))) (.or_ (.t (.op .lt (.e (.op .toIntS (.v 5 .nil)) (.e (.cst (.int 2)) .nil)))) (.t (.op .ne (.e (.call 7 (.v 2 (.e (.op .toIntS (.v 5 .nil)) .nil))) (.e (.cst (.int 1)) .nil)))))) (.cons (.ret (.cst .non)) .nil) .nil) (.cons (.ret (.tup (.cons (.var 2) (.cons (.op .toIntS (.v 5 .nil)) .nil)))) .nil)))
      [some (.imm, .str z), some (.imm, .str b), some (.imm, .int n), some (.imm, .str p1), some (.imm, .str p2), some (.imm, .str p3)] K := by
  have l0 : lay 60 (.str ("" : Str)) = true := by decide +kernel
  have lp2 : lay 60 (.str p2) = true := o2.1
  have li : ∀ i, lay 60 (.int i) = true := fun _ => rfl
  by_cases e2 : p2 = ("" : Str)
  · rw [if_pos e2] at hQ
    have b2 : (p2 == ("" : Str)) = true := by rw [e2]; simp
    simp only [l0, lp2, b2, wpSs, wpS, wpOs, wpE, wpB, wpTs, resolve, Opd.get, argsOf, Opd.arg, argF, ownIx, nodupB, putOuts, asgTg, asgVs, Rho.leak, r_at0, r_atS, r_put0, r_putS, Option.map_some, ex_some, o_isN, o_eq, o_ne, o_lt, o_neg, o_mul, o_toIntS, o_sl10, o_sl01, o_part, eqS, eqD, truthD, true_and, Bool.not_true, Bool.not_false, Bool.false_eq_true, if_true, if_false]
    exact hK _ hQ
  · rw [if_neg e2] at hQ
    have b2 : (p2 == ("" : Str)) = false := by simpa using e2
    simp only [l0, lp2, b2, h14, wpSs, wpS, wpOs, wpE, wpB, wpTs, resolve, Opd.get, argsOf, Opd.arg, argF, ownIx, nodupB, putOuts, asgTg, asgVs, Rho.leak, r_at0, r_atS, r_put0, r_putS, Option.map_some, ex_some, o_isN, o_eq, o_ne, o_lt, o_neg, o_mul, o_toIntS, o_sl10, o_sl01, o_part, eqS, eqD, truthD, true_and, Bool.not_true, Bool.not_false, Bool.false_eq_true, if_true, if_false]
    refine t_figB o3 ?_
    unfold figO at hQ
    cases q3 : figL p3.cps.toList with
    | false =>
      rw [q3] at hQ
      simp only [wpSs, wpS, wpOs, wpE, wpB, wpTs, resolve, Opd.get, argsOf, Opd.arg, argF, ownIx, nodupB, putOuts, asgTg, asgVs, Rho.leak, r_at0, r_atS, r_put0, r_putS, Option.map_some, ex_some, o_isN, o_eq, o_ne, o_lt, o_neg, o_mul, o_toIntS, o_sl10, o_sl01, o_part, eqS, eqD, truthD, true_and, Bool.not_true, Bool.not_false, Bool.false_eq_true, if_true, if_false]
      exact hK _ hQ
    | true =>
      rw [q3, if_pos rfl] at hQ
      have e3 := int_fig q3 o3.2
      have hQ : Q (if 2 ≤ valL p3.cps.toList ∧ Nat.gcd n.natAbs (valL p3.cps.toList).natAbs = 1 then .tup [.int n, .int (valL p3.cps.toList)] else .non) := hQ
      generalize valL p3.cps.toList = m at *
      by_cases c1 : m < 2
      · rw [if_neg (by omega)] at hQ
        simp only [e3, ex_some, c1, decide_true, wpSs, wpS, wpOs, wpE, wpB, wpTs, resolve, Opd.get, argsOf, Opd.arg, argF, ownIx, nodupB, putOuts, asgTg, asgVs, Rho.leak, r_at0, r_atS, r_put0, r_putS, Option.map_some, ex_some, o_isN, o_eq, o_ne, o_lt, o_neg, o_mul, o_toIntS, o_sl10, o_sl01, o_part, eqS, eqD, truthD, true_and, Bool.not_true, Bool.not_false, Bool.false_eq_true, if_true, if_false]
        exact ⟨o3.2, hK _ hQ⟩
      · by_cases c2 : Nat.gcd n.natAbs m.natAbs = 1
        · rw [if_pos ⟨by omega, c2⟩] at hQ
          have b3 : ((Int.gcd n m : Int) == 1) = true := by
            have : Int.gcd n m = 1 := c2
            rw [this]; rfl
          simp only [e3, ex_some, c1, decide_false, h7, t_common, li, b3, wpSs, wpS, wpOs, wpE, wpB, wpTs, resolve, Opd.get, argsOf, Opd.arg, argF, ownIx, nodupB, putOuts, asgTg, asgVs, Rho.leak, r_at0, r_atS, r_put0, r_putS, Option.map_some, ex_some, o_isN, o_eq, o_ne, o_lt, o_neg, o_mul, o_toIntS, o_sl10, o_sl01, o_part, eqS, eqD, truthD, true_and, Bool.not_true, Bool.not_false, Bool.false_eq_true, if_true, if_false]
          exact ⟨o3.2, o3.2, o3.2, hK _ hQ⟩
        · rw [if_neg (fun h => c2 h.2)] at hQ
          have b3 : ((Int.gcd n m : Int) == 1) = false := by
            rw [beq_eq_false_iff_ne]
            have : Int.gcd n m ≠ 1 := c2
            omega
          simp only [e3, ex_some, c1, decide_false, h7, t_common, li, b3, wpSs, wpS, wpOs, wpE, wpB, wpTs, resolve, Opd.get, argsOf, Opd.arg, argF, ownIx, nodupB, putOuts, asgTg, asgVs, Rho.leak, r_at0, r_atS, r_put0, r_putS, Option.map_some, ex_some, o_isN, o_eq, o_ne, o_lt, o_neg, o_mul, o_toIntS, o_sl10, o_sl01, o_part, eqS, eqD, truthD, true_and, Bool.not_true, Bool.not_false, Bool.false_eq_true, if_true, if_false]
          exact ⟨o3.2, o3.2, hK _ hQ⟩
end Lw
end Ev
set_option Elab.async false
set_option linter.all false
set_option autoImplicit false
set_option maxRecDepth 100000
set_option maxHeartbeats 1000000
namespace Ev
namespace Lw
open PySem
theorem ok_head {z : Str} (h : okS z) : okS (cutT z none (some 1)) := by
  have e := cut_head (z := z)
  obtain ⟨h1, h2⟩ := h
  have h1' : ∀ c ∈ z.cps.toList, c < 0x110000 := by
    have : z.cps.toList.all (· < 0x110000) = true := by
      rw [← h1]
      simp
    intro c hc
    have := List.all_eq_true.mp this c hc
    simpa using this
  refine ⟨?_, ?_⟩
  · have : (cutT z none (some 1)).cps.toList.all (· < 0x110000) = true := by
      rw [e, List.all_eq_true]
      intro c hc
      simpa using h1' c (List.mem_of_mem_take hc)
    rw [← this]
    simp
  · have l1 : (cutT z none (some 1)).length = (cutT z none (some 1)).cps.toList.length := by simp [Str.length]
    rw [l1, e, List.length_take]
    omega
def tailB : Ss := (.cons (.ife (.t (.op .eq (.v 4 (.e (.cst (.str "")) .nil)))) (.cons (.ret (.tup (.cons (.var 2) (.cons (.cst (.int 1)) .nil)))) .nil) .nil) (.cons (.ife (.or_ (.not_ (.t (.call 14 (.v 5 .nil)))) (.or_ (.t (.op .lt (.e (.op .toIntS (.v 5 .nil)) (.e (.cst (.int 2)) .nil)))) (.t (.op .ne (.e (.call 7 (.v 2 (.e (.op .toIntS (.v 5 .nil)) .nil))) (.e (.cst (.int 1)) .nil)))))) (.cons (.ret (.cst .non)) .nil) .nil) (.cons (.ret (.tup (.cons (.var 2) (.cons (.op .toIntS (.v 5 .nil)) .nil)))) .nil)))
theorem lread_ok (G : Glob) (h14 : G.fn 14 = fnT rFigB) (h7 : G.fn 7 = fnT rCommon) (as : List Val) (Q : Val → List Val → Prop) (X : D → List Val → Prop) (h : fnT rRead as Q X) : runF G 1 5 b__law_read as Q X := by
  obtain ⟨ds, r, rfl, ⟨d, rfl, ok, rfl⟩, hQ⟩ := h
  refine ⟨rfl, ?_⟩
  show wpSs G (.cons (.ife (.not_ (.t (.op (.isi [.str]) (.v 0 .nil)))) (.cons (.ret (.cst .non)) .nil) .nil) (.cons (.asg (.vs [3, 4, 5]) (.op .part (.v 0 (.e (.cst (.str "/")) .nil)))) (.cons (.asg (.v 1) (.ife (.t (.op .eq (.e (.op (.slcS false true) (.v 3 (.n (.cst (.int 1)) .nil))) (.e (.cst (.str "-")) .nil)))) (.op (.slcS true false) (.v 3 (.n (.cst (.int 1)) .nil))) (.var 3))) (.cons (.ife (.or_ (.not_ (.t (.call 14 (.v 1 .nil)))) (.t (.op .eq (.v 3 (.e (.cst (.str "-0")) .nil))))) (.cons (.ret (.cst .non)) .nil) .nil) (.cons (.asg (.v 2) (.op .mul (.e (.op .toIntS (.v 1 .nil)) (.e (.ife (.t (.op .eq (.e (.op (.slcS false true) (.v 3 (.n (.cst (.int 1)) .nil))) (.e (.cst (.str "-")) .nil)))) (.op .neg (.e (.cst (.int 1)) .nil)) (.cst (.int 1))) .nil)))) tailB))))) [some (.imm, d), none, none, none, none, none] _
  cases ht : hasTy .str d with
  | false =>
    have e : readD d = .non := by cases d <;> first | rfl | (cases ht; done)
    rw [e] at hQ
    simp only [wpSs, wpS, wpOs, wpE, wpB, resolve, Opd.get, r_at0, r_atS, r_put0, r_putS, Option.map_some, ex_some, o_isi, List.any_cons, List.any_nil, Bool.or_false, ht, truthD, Bool.not_false, if_true]
    exact ⟨_, rfl, hQ⟩
  | true =>
    obtain ⟨z, rfl⟩ := strTy d ht
    have ok : okS z := ok
    have hQ : Q (.imm, readS z) [(.imm, .str z)] := hQ
    obtain ⟨o1, o2, o3⟩ := ok_part ok
    have hzl : z.length ≤ line := by have := ok.2; simp only [line]; omega
    have sl : (("/" : Str)).length ≠ 0 := by decide
    have lm : lay 60 (.str ("-" : Str)) = true := by decide +kernel
    have lm0 : lay 60 (.str ("-0" : Str)) = true := by decide +kernel
    obtain ⟨p1, p2, p3, hpp⟩ : ∃ p1 p2 p3, Txt.partition z "/" = (p1, p2, p3) := ⟨_, _, _, rfl⟩
    unfold readS at hQ
    rw [hpp] at hQ o1 o2 o3
    have o1 : okS p1 := o1
    have o2 : okS p2 := o2
    have o3 : okS p3 := o3
    have lp1 : lay 60 (.str p1) = true := o1.1
    have lh : lay 60 (.str (cutT p1 none (some 1))) = true := (ok_head o1).1
    have hz1 : p1.length ≤ line := by have := o1.2; simp only [line]; omega
    have hQ : Q (.imm, match numO p1.cps.toList with
      | none => .non
      | some n => if p2 = ("" : Str) then .tup [.int n, .int 1] else
        match figO p3.cps.toList with
        | none => .non
        | some m => if 2 ≤ m ∧ Nat.gcd n.natAbs m.natAbs = 1 then .tup [.int n, .int m] else .non) [(.imm, .str z)] := hQ
    by_cases hm : p1.cps.toList.head? = some 45
    · have hb : (p1.cps.toList.head? == some 45) = true := by rw [hm]; rfl
      have en : numO p1.cps.toList = minusO (figO p1.cps.toList.tail) := if_pos hm
      rw [en] at hQ
      obtain ⟨l, hl⟩ : ∃ l, p1.cps.toList = 45 :: l := by
        cases q : p1.cps.toList with
        | nil => rw [q] at hm; cases hm
        | cons a l => rw [q] at hm; cases hm; exact ⟨l, rfl⟩
      have ot := ok_tail o1
      have et := cut_tail (z := p1)
      rw [hl] at et hQ
      simp only [List.tail_cons] at et hQ
      simp only [o_isi, List.any_cons, List.any_nil, Bool.or_false, ht, hpp, lm, lh, head_minus, hb, h14, wpSs, wpS, wpOs, wpE, wpB, wpTs, resolve, Opd.get, argsOf, Opd.arg, argF, ownIx, nodupB, putOuts, asgTg, asgVs, Rho.leak, r_at0, r_atS, r_put0, r_putS, Option.map_some, ex_some, o_isN, o_eq, o_ne, o_lt, o_neg, o_mul, o_toIntS, o_sl10, o_sl01, o_part, eqS, eqD, truthD, true_and, Bool.not_true, Bool.not_false, Bool.false_eq_true, if_true, if_false]
      refine ⟨sl, hzl, hz1, hz1, t_figB ot ?_⟩
      rw [et]
      unfold figO at hQ
      cases q1 : figL l with
      | false =>
        rw [q1] at hQ
        simp only [wpSs, wpS, wpOs, wpE, wpB, wpTs, resolve, Opd.get, argsOf, Opd.arg, argF, ownIx, nodupB, putOuts, asgTg, asgVs, Rho.leak, r_at0, r_atS, r_put0, r_putS, Option.map_some, ex_some, o_isN, o_eq, o_ne, o_lt, o_neg, o_mul, o_toIntS, o_sl10, o_sl01, o_part, eqS, eqD, truthD, true_and, Bool.not_true, Bool.not_false, Bool.false_eq_true, if_true, if_false]
        exact ⟨_, rfl, hQ⟩
      | true =>
        rw [q1, if_pos rfl] at hQ
        have e3 := int_fig (z := cutT p1 (some 1) none) (by rw [et]; exact q1) ot.2
        rw [et] at e3
        by_cases v0 : valL l = 0
        · have el := val_zero q1 v0
          have em : (p1 == ("-0" : Str)) = true := by rw [minus0, hl, el]; rfl
          have e : minusO (some (valL l)) = none := if_pos v0
          rw [e] at hQ
          simp only [lp1, lm0, em, wpSs, wpS, wpOs, wpE, wpB, wpTs, resolve, Opd.get, argsOf, Opd.arg, argF, ownIx, nodupB, putOuts, asgTg, asgVs, Rho.leak, r_at0, r_atS, r_put0, r_putS, Option.map_some, ex_some, o_isN, o_eq, o_ne, o_lt, o_neg, o_mul, o_toIntS, o_sl10, o_sl01, o_part, eqS, eqD, truthD, true_and, Bool.not_true, Bool.not_false, Bool.false_eq_true, if_true, if_false]
          exact ⟨_, rfl, hQ⟩
        · have em : (p1 == ("-0" : Str)) = false := by
            rw [minus0, hl, beq_eq_false_iff_ne]
            intro e
            cases e
            exact v0 (by decide)
          have e : minusO (some (valL l)) = some (-valL l) := if_neg v0
          rw [e] at hQ
          simp only [lp1, lm0, em, e3, ex_some, lm, lh, head_minus, hb, wpSs, wpS, wpOs, wpE, wpB, wpTs, resolve, Opd.get, argsOf, Opd.arg, argF, ownIx, nodupB, putOuts, asgTg, asgVs, Rho.leak, r_at0, r_atS, r_put0, r_putS, Option.map_some, ex_some, o_isN, o_eq, o_ne, o_lt, o_neg, o_mul, o_toIntS, o_sl10, o_sl01, o_part, eqS, eqD, truthD, true_and, Bool.not_true, Bool.not_false, Bool.false_eq_true, if_true, if_false]
          refine ⟨ot.2, hz1, .inr (.inr (by decide)), ?_⟩
          have e1 : valL l * -1 = -valL l := by omega
          rw [e1]
          exact lread_end G h14 h7 (Q := fun d => Q (.imm, d) [(.imm, .str z)]) o2 o3 hQ fun d hd => ⟨_, rfl, hd⟩
    · have hb : (p1.cps.toList.head? == some 45) = false := by
        rw [beq_eq_false_iff_ne]
        exact hm
      have en : numO p1.cps.toList = figO p1.cps.toList := if_neg hm
      rw [en] at hQ
      simp only [o_isi, List.any_cons, List.any_nil, Bool.or_false, ht, hpp, lm, lh, head_minus, hb, h14, wpSs, wpS, wpOs, wpE, wpB, wpTs, resolve, Opd.get, argsOf, Opd.arg, argF, ownIx, nodupB, putOuts, asgTg, asgVs, Rho.leak, r_at0, r_atS, r_put0, r_putS, Option.map_some, ex_some, o_isN, o_eq, o_ne, o_lt, o_neg, o_mul, o_toIntS, o_sl10, o_sl01, o_part, eqS, eqD, truthD, true_and, Bool.not_true, Bool.not_false, Bool.false_eq_true, if_true, if_false]
      refine ⟨sl, hzl, hz1, t_figB o1 ?_⟩
      unfold figO at hQ
      have em : (p1 == ("-0" : Str)) = false := by
        rw [minus0, beq_eq_false_iff_ne]
        intro e
        rw [e] at hm
        exact hm rfl
      cases q1 : figL p1.cps.toList with
      | false =>
        rw [q1] at hQ
        simp only [wpSs, wpS, wpOs, wpE, wpB, wpTs, resolve, Opd.get, argsOf, Opd.arg, argF, ownIx, nodupB, putOuts, asgTg, asgVs, Rho.leak, r_at0, r_atS, r_put0, r_putS, Option.map_some, ex_some, o_isN, o_eq, o_ne, o_lt, o_neg, o_mul, o_toIntS, o_sl10, o_sl01, o_part, eqS, eqD, truthD, true_and, Bool.not_true, Bool.not_false, Bool.false_eq_true, if_true, if_false]
        exact ⟨_, rfl, hQ⟩
      | true =>
        rw [q1, if_pos rfl] at hQ
        have e3 := int_fig q1 o1.2
        simp only [lp1, lm0, em, e3, ex_some, lm, lh, head_minus, hb, wpSs, wpS, wpOs, wpE, wpB, wpTs, resolve, Opd.get, argsOf, Opd.arg, argF, ownIx, nodupB, putOuts, asgTg, asgVs, Rho.leak, r_at0, r_atS, r_put0, r_putS, Option.map_some, ex_some, o_isN, o_eq, o_ne, o_lt, o_neg, o_mul, o_toIntS, o_sl10, o_sl01, o_part, eqS, eqD, truthD, true_and, Bool.not_true, Bool.not_false, Bool.false_eq_true, if_true, if_false]
        refine ⟨o1.2, hz1, .inr (.inr (by decide)), ?_⟩
        rw [Int.mul_one]
        exact lread_end G h14 h7 (Q := fun d => Q (.imm, d) [(.imm, .str z)]) o2 o3 hQ fun d hd => ⟨_, rfl, hd⟩
end Lw
end Ev
set_option Elab.async false
set_option linter.all false
set_option autoImplicit false
set_option maxRecDepth 100000
set_option maxHeartbeats 1000000
/-! more rows for walking through a body -/
namespace Ev
open PySem
section
variable {P : Val → Prop} {i j : Int} {a b c z : Str} {xs ys : List D} {x y d : D} {ρ : Rho} {v : Val} {G : Glob} {Q : Q1} {Xx : X1} {n : Nat} {bb : Bool} {f : Fl}
theorem q_slc11l : opP (.slc true true) [.lst xs, .int i, .int j] P = (P (.own, .lst (cut xs (some i) (some j)))) := rfl
theorem q_slc10l : opP (.slc true false) [.lst xs, .int i] P = (P (.own, .lst (cut xs (some i) none))) := rfl
theorem q_slc01l : opP (.slc false true) [.lst xs, .int j] P = (P (.own, .lst (cut xs none (some j)))) := rfl
theorem q_slc00l : opP (.slc false false) [.lst xs] P = (P (.own, .lst (cut xs none none))) := rfl
theorem q_slc11f : opP (.slc true true) [.frz xs, .int i, .int j] P = (P (.own, .lst (cut xs (some i) (some j)))) := rfl
theorem q_slc10f : opP (.slc true false) [.frz xs, .int i] P = (P (.own, .lst (cut xs (some i) none))) := rfl
theorem q_slc01f : opP (.slc false true) [.frz xs, .int j] P = (P (.own, .lst (cut xs none (some j)))) := rfl
theorem q_slc00f : opP (.slc false false) [.frz xs] P = (P (.own, .lst (cut xs none none))) := rfl
theorem q_slc11t : opP (.slc true true) [.tup xs, .int i, .int j] P = (P (.imm, .tup (cut xs (some i) (some j)))) := rfl
theorem q_slc10t : opP (.slc true false) [.tup xs, .int i] P = (P (.imm, .tup (cut xs (some i) none))) := rfl
theorem q_slc01t : opP (.slc false true) [.tup xs, .int j] P = (P (.imm, .tup (cut xs none (some j)))) := rfl
theorem q_slc00t : opP (.slc false false) [.tup xs] P = (P (.imm, .tup (cut xs none none))) := rfl
theorem q_toIntb : opP .toInt [.bl bb] P = (P (.imm, .int (if bb then 1 else 0))) := rfl
theorem q_toListf : opP .toList [.frz xs] P = (P (.own, .lst xs)) := rfl
theorem q_toListt : opP .toList [.tup xs] P = (P (.own, .lst xs)) := rfl
theorem q_toTuplel : opP .toTuple [.lst xs] P = (P (.imm, .tup xs)) := rfl
theorem q_toTuplet : opP .toTuple [.tup xs] P = (P (.imm, .tup xs)) := rfl
theorem q_any : opP .any [.lst xs] P = (∃ bs, bools? xs = some bs ∧ P (.imm, .bl (bs.any id))) := rfl
theorem q_sum : opP .sum [.lst xs] P = (∃ ns, ints? xs = some ns ∧ P (.imm, .int ns.sum)) := rfl
theorem q_slcS11 : opP (.slcS true true) [.str z, .int i, .int j] P = (z.length ≤ line ∧ P (.imm, .str (cutT z (some i) (some j)))) := rfl
theorem q_slcS10 : opP (.slcS true false) [.str z, .int i] P = (z.length ≤ line ∧ P (.imm, .str (cutT z (some i) none))) := rfl
theorem q_slcS01 : opP (.slcS false true) [.str z, .int j] P = (z.length ≤ line ∧ P (.imm, .str (cutT z none (some j)))) := rfl
theorem q_toIntS : opP .toIntS [.str a] P = (∃ n, intText? a = some n ∧ a.length ≤ 640 ∧ P (.imm, .int n)) := rfl
theorem q_rep : opP .rep [.str a, .int i] P = (1 < i ∧ a.length ≠ 0 ∧ a.length * i.toNat ≤ line ∧ P (.imm, .str (repT a i.toNat))) := rfl
theorem q_inS : opP .inS [.str a, .str z] P = (∃ c, a = ⟨#[c]⟩ ∧ P (.imm, .bl (decide (c ∈ z.cps.toList)))) := rfl
theorem q_toStr : opP .toStr [.int i] P = (i.natAbs.log2 < 1920 ∧ P (.imm, .str (textI i))) := rfl
theorem q_strip : opP .stripC [.str a, .str b] P = (a.length ≤ line ∧ P (.imm, .str (Txt.stripChars a b))) := rfl
theorem q_starts : opP .startsw [.str a, .str b] P = (P (.imm, .bl (Txt.startswith a b))) := rfl
theorem q_part : opP .part [.str a, .str b] P = (b.length ≠ 0 ∧ a.length ≤ line ∧ P (.imm, .tup [.str (Txt.partition a b).1, .str (Txt.partition a b).2.1, .str (Txt.partition a b).2.2])) := rfl
theorem q_max2 : opP .max2 [.int i, .int j] P = (P (.imm, .int (if j > i then j else i))) := rfl
theorem q_min2 : opP .min2 [.int i, .int j] P = (P (.imm, .int (if j < i then j else i))) := rfl
theorem q_in : opP .in_ [x, .lst xs] P = (lay 60 x = true ∧ lay 60 (.lst xs) = true ∧ P (.imm, .bl (xs.any fun y => eqD y x))) := by cases x <;> rfl
theorem q_notin : opP .notin [x, .lst xs] P = (lay 60 x = true ∧ lay 60 (.lst xs) = true ∧ P (.imm, .bl (!xs.any fun y => eqD y x))) := by cases x <;> rfl
theorem wo_nl {K : List Opd → Rho → Prop} {t : T} {r : Os} : wpOs G (.n t r) ρ K Xx = wpE G t ρ (fun a ρ1 => match a.2 with
      | .int _ => wpOs G r ρ1 (fun l ρ' => K (.x a :: l) ρ') Xx
      | _ => False) Xx := rfl
theorem bl_ex {k : Bool} {p : Bool → Prop} : (∃ j : Bool, D.bl k = D.bl j ∧ p j) = p k := by
  apply propext
  exact ⟨fun ⟨j, e, h⟩ => by cases e; exact h, fun h => ⟨k, rfl, h⟩⟩
theorem tr_bl : truthD (.bl bb) = some bb := rfl
theorem tr_int : truthD (.int i) = some (i != 0) := rfl
theorem tr_non : truthD .non = some false := rfl
theorem tr_lst : truthD (.lst xs) = some (!xs.isEmpty) := rfl
theorem tr_tup : truthD (.tup xs) = some (!xs.isEmpty) := rfl
theorem ou_nil {r : Rho} : outsOf [] r = some [] := by cases r <;> rfl
theorem ou_imm {as : List Val} {r : Rho} {o : Option Val} : outsOf ((.imm, d) :: as) (o :: r) = (outsOf as r).map ((.imm, d) :: ·) := by cases o <;> rfl
theorem ou_par {as : List Val} {r : Rho} {d' : D} : outsOf ((.par, d) :: as) (some (.par, d') :: r) = (outsOf as r).map ((.par, d') :: ·) := rfl
theorem ou_parl {as : List Val} {r : Rho} {d' : D} : outsOf ((.par, d) :: as) (some (.parl, d') :: r) = (outsOf as r).map ((.parl, d') :: ·) := rfl
theorem ex_some2 {α β : Type} {x : α} {y : β} {p : α → β → Prop} : (∃ a b, some x = some a ∧ some y = some b ∧ p a b) = p x y := by
  apply propext
  constructor
  · rintro ⟨a, b, e1, e2, h⟩
    cases e1
    cases e2
    exact h
  · exact fun h => ⟨x, y, rfl, rfl, h⟩
theorem eq_bl {e : Bool} : eqD (.bl bb) (.bl e) = (bb == e) := rfl
theorem eq_int : eqD (.int i) (.int j) = (i == j) := rfl
theorem eq_str : eqD (.str a) (.str b) = (a == b) := rfl
theorem eq_non : eqD .non .non = true := rfl
theorem la_bl : lay n (.bl bb) = true := by cases n <;> rfl
theorem la_int : lay n (.int i) = true := by cases n <;> rfl
theorem la_non : lay n .non = true := by cases n <;> rfl
/-- not a list of the caller's -/
def npP (o : Option Val) (R : Prop) : Prop := match o with
  | some (.par, _) => False
  | some (.parl, _) => False
  | _ => R
theorem np_none {R : Prop} : npP none R = R := rfl
theorem np_imm {R : Prop} : npP (some (.imm, d)) R = R := rfl
theorem np_own {R : Prop} : npP (some (.own, d)) R = R := rfl
def Sl (o : Option Val) : Prop := ∀ R, npP o R = R
theorem sl_imm : Sl (some (.imm, d)) := fun _ => rfl
theorem sl_none : Sl none := fun _ => rfl
theorem asg_v {K : Rho → Prop} : asgTg (.v n) v ρ K = npP (ρ.at n) (K (ρ.put n (some v))) := rfl
theorem asg_vs {K : Rho → Prop} {is : List Nat} : asgTg (.vs is) (f, .tup xs) ρ K = asgVs is xs ρ K := rfl
theorem av_nil {K : Rho → Prop} : asgVs [] [] ρ K = K ρ := rfl
theorem av_cons {K : Rho → Prop} {is : List Nat} : asgVs (n :: is) (d :: xs) ρ K = npP (ρ.at n) (asgVs is xs (ρ.put n (some (.imm, d))) K) := rfl
theorem pu_nil {K : Rho → Prop} : putVals [] [] ρ K = K ρ := rfl
theorem pu_cons {K : Rho → Prop} {is : List Nat} {os : List Opd} : putVals (n :: is) (.x v :: os) ρ K = npP (ρ.at n) (putVals is os (ρ.put n (some v)) K) := rfl
theorem ex_rg {ds0 : List D} {p : List D → Prop} : (∃ ds is, some ds0 = some ds ∧ rangeD ds = some is ∧ p is) = ∃ is, rangeD ds0 = some is ∧ p is := by
  apply propext
  constructor
  · rintro ⟨ds, is, e, h⟩
    cases e
    exact ⟨is, h⟩
  · rintro ⟨is, h⟩
    exact ⟨ds0, is, rfl, h⟩
/-- what the walk must not use -/
structure Hid (R : Prop) : Prop where
  out : R
/-- no list is very long -/
def szB : Nat → D → Bool
  | n + 1, .tup xs => decide (xs.length ≤ 100000) && xs.all (szB n)
  | n + 1, .lst xs => decide (xs.length ≤ 100000) && xs.all (szB n)
  | _, _ => true
/-- a comprehension, the items one behind another -/
theorem forP_map {ρ : Rho} {body : D → List D × Rho → (List D × Rho → Prop) → Prop} {nx : List D × Rho → Prop} (g : D → D) : ∀ {items : List D} (acc : List D), (∀ d ∈ items, ∀ (acc : List D) (K : List D × Rho → Prop), K (acc ++ [g d], ρ) → body d (acc, ρ) K) → nx (acc ++ items.map g, ρ) → forP body nx items (acc, ρ)
  | [], acc, _, h => by
    show nx (acc, ρ)
    simpa using h
  | d :: ds, acc, hb, h => by
    refine hb d (List.mem_cons_self ..) acc _ ?_
    exact forP_map g (items := ds) (acc ++ [g d]) (fun e he => hb e (List.mem_cons_of_mem _ he)) (by simpa using h)
theorem forP_filter {ρ : Rho} {body : D → List D × Rho → (List D × Rho → Prop) → Prop} {nx : List D × Rho → Prop} (c : D → Bool) (g : D → D) : ∀ {items : List D} (acc : List D), (∀ d ∈ items, ∀ (acc : List D) (K : List D × Rho → Prop), K (if c d = true then acc ++ [g d] else acc, ρ) → body d (acc, ρ) K) → nx (acc ++ (items.filter c).map g, ρ) → forP body nx items (acc, ρ)
  | [], acc, _, h => by
    show nx (acc, ρ)
    simpa using h
  | d :: ds, acc, hb, h => by
    refine hb d (List.mem_cons_self ..) acc _ ?_
    cases q : c d with
    | true =>
      rw [if_pos rfl]
      refine forP_filter c g (items := ds) (acc ++ [g d]) (fun e he => hb e (List.mem_cons_of_mem _ he)) ?_
      rw [List.filter_cons_of_pos q] at h
      simpa using h
    | false =>
      rw [if_neg (by simp)]
      refine forP_filter c g (items := ds) acc (fun e he => hb e (List.mem_cons_of_mem _ he)) ?_
      rw [List.filter_cons_of_neg (by simp [q])] at h
      exact h
/-- a loop by what holds between two turns -/
theorem forP_inv {α : Type} {body : D → α → (α → Prop) → Prop} {nx : α → Prop} (Inv : List D → α → Prop) : ∀ {items : List D} (a : α), Inv items a → (∀ d ds a K, Inv (d :: ds) a → (∀ a', Inv ds a' → K a') → body d a K) → (∀ a, Inv [] a → nx a) → forP body nx items a
  | [], a, h, _, hn => hn a h
  | d :: ds, a, h, hb, hn => by
    refine hb d ds a _ h fun a' h' => ?_
    exact forP_inv Inv (items := ds) a' h' hb hn
theorem forP_nil {α : Type} {body : D → α → (α → Prop) → Prop} {nx : α → Prop} {a : α} : forP body nx [] a = nx a := rfl
theorem forP_cons {α : Type} {body : D → α → (α → Prop) → Prop} {nx : α → Prop} {d : D} {ds : List D} {a : α} : forP body nx (d :: ds) a = body d a (forP body nx ds) := rfl
theorem bools_map {β : Type} (l : List β) (f : β → Bool) : bools? (l.map fun d => D.bl (f d)) = some (l.map f) := by
  induction l with
  | nil => rfl
  | cons d l ih =>
    show (bools? (l.map fun d => D.bl (f d))).map (f d :: ·) = _
    rw [ih]
    rfl
end
end Ev
set_option Elab.async false
set_option linter.all false
set_option autoImplicit false
set_option maxRecDepth 100000
set_option maxHeartbeats 1000000
/-! rows that step in order: what follows is looked at only when what it gets is known -/
namespace Ev
open PySem
section
variable {G : Glob} {o : Option Val} {ρ : Rho} {Q : Q1} {X : X1} {K : Kont} {n i : Nat} {d : D} {a : Val} {f g : Fl} {l : List Opd} {xs ys : List D}
theorem ex_sb {α : Type} {v : α} : (∃ b, some v = some b) = True := eq_true ⟨v, rfl⟩
theorem ex_sl {f : Fl} {xs : List D} : (∃ f' ds, some (f, D.lst xs) = some (f', D.lst ds)) = True := eq_true ⟨f, xs, rfl⟩
def atK (ρ : Rho) (i : Nat) (k : Val → Prop) : Prop := ∃ a, ρ.at i = some a ∧ k a
theorem at_0 {k : Val → Prop} : atK (some a :: ρ) 0 k = k a := ex_some
theorem at_S {k : Val → Prop} : atK (o :: ρ) (n + 1) k = atK ρ n k := rfl
def setK (ρ : Rho) (i : Nat) (v : Option Val) (k : Rho → Prop) : Prop := k (ρ.put i v)
theorem set_0 {v : Option Val} {k : Rho → Prop} : setK (o :: ρ) 0 v k = k (v :: ρ) := rfl
theorem set_S {v : Option Val} {k : Rho → Prop} : setK (o :: ρ) (n + 1) v k = setK ρ n v (fun r => k (o :: r)) := rfl
def lkK (a : Val) (i : Nat) (ρ : Rho) (k : Q1) : Prop := match a with
  | (.own, d) => setK ρ i (some (.imm, d)) (k (.imm, d))
  | (.par, d) => setK ρ i (some (.parl, d)) (k (.imm, d))
  | (_, d) => k (.imm, d) ρ
theorem lk_i {k : Q1} : lkK (.imm, d) i ρ k = k (.imm, d) ρ := rfl
theorem lk_o {k : Q1} : lkK (.own, d) i ρ k = setK ρ i (some (.imm, d)) (k (.imm, d)) := rfl
theorem lk_p {k : Q1} : lkK (.par, d) i ρ k = setK ρ i (some (.parl, d)) (k (.imm, d)) := rfl
theorem lk_l {k : Q1} : lkK (.parl, d) i ρ k = k (.imm, d) ρ := rfl
def vlK (a : Val) (k : D → Prop) : Prop := k a.2
/-- the operands' values -/
def resK (ρ : Rho) (l : List Opd) (k : List D → Prop) : Prop := ∃ ds, resolve ρ l = some ds ∧ k ds
theorem re_nil {k : List D → Prop} : resK (o :: ρ) [] k = k [] := ex_some
theorem re_x0 {k : List D → Prop} : resK ρ (.x (f, d) :: l) k = resK ρ l (fun ds => k (d :: ds)) := by
  apply propext
  constructor
  · rintro ⟨ds, e, h⟩
    have e : (match some d, resolve ρ l with | some d, some ds => some (d :: ds) | _, _ => none) = some ds := e
    cases q : resolve ρ l with
    | none => rw [q] at e; cases e
    | some es => rw [q] at e; cases e; exact ⟨es, q, h⟩
  · rintro ⟨ds, e, h⟩
    exact ⟨_, res_x e, h⟩
theorem re_v0 {k : List D → Prop} : resK ρ (.v i :: l) k = atK ρ i (fun a => resK ρ l (fun ds => k (a.2 :: ds))) := by
  apply propext
  constructor
  · rintro ⟨ds, e, h⟩
    have e : (match (ρ.at i).map (·.2), resolve ρ l with | some d, some ds => some (d :: ds) | _, _ => none) = some ds := e
    cases q0 : ρ.at i with
    | none => rw [q0] at e; cases e
    | some a =>
      cases q : resolve ρ l with
      | none => rw [q0, q] at e; cases e
      | some es => rw [q0, q] at e; cases e; exact ⟨a, q0, es, q, h⟩
  · rintro ⟨a, e0, ds, e, h⟩
    exact ⟨_, res_v e0 e, h⟩
theorem re_xi {k : List D → Prop} : resK (o :: ρ) (.x (.imm, d) :: l) k = resK (o :: ρ) l (fun ds => k (d :: ds)) := re_x0
theorem re_xo {k : List D → Prop} : resK (o :: ρ) (.x (.own, d) :: l) k = resK (o :: ρ) l (fun ds => k (d :: ds)) := re_x0
theorem re_v {k : List D → Prop} : resK (o :: ρ) (.v i :: l) k = atK (o :: ρ) i (fun a => vlK a fun d => resK (o :: ρ) l (fun ds => k (d :: ds))) := re_v0
/-- as an argument -/
def flK (a : Val) (k : Fl → D → Prop) : Prop := k (argF a.1) a.2
theorem fl_i {k : Fl → D → Prop} : flK (.imm, d) k = k .imm d := rfl
theorem fl_o {k : Fl → D → Prop} : flK (.own, d) k = k .par d := rfl
theorem fl_p {k : Fl → D → Prop} : flK (.par, d) k = k .par d := rfl
theorem fl_l {k : Fl → D → Prop} : flK (.parl, d) k = k .imm d := rfl
def argK (ρ : Rho) (l : List Opd) (k : List Val → Prop) : Prop := ∃ vs, argsOf ρ l = some vs ∧ k vs
theorem ar_nil0 {k : List Val → Prop} : argK ρ [] k = k [] := ex_some
theorem ar_x0 {k : List Val → Prop} : argK ρ (.x a :: l) k = flK a (fun f d => argK ρ l (fun vs => k ((f, d) :: vs))) := by
  apply propext
  constructor
  · rintro ⟨ds, e, h⟩
    have e : (match some (argF a.1, a.2), argsOf ρ l with | some d, some ds => some (d :: ds) | _, _ => none) = some ds := e
    cases q : argsOf ρ l with
    | none => rw [q] at e; cases e
    | some es => rw [q] at e; cases e; exact ⟨es, q, h⟩
  · rintro ⟨ds, e, h⟩
    refine ⟨(argF a.1, a.2) :: ds, ?_, h⟩
    show (match some (argF a.1, a.2), argsOf ρ l with | some d, some ds => some (d :: ds) | _, _ => none) = _
    rw [e]
theorem ar_v0 {k : List Val → Prop} : argK ρ (.v i :: l) k = atK ρ i (fun a => flK a (fun f d => argK ρ l (fun vs => k ((f, d) :: vs)))) := by
  apply propext
  constructor
  · rintro ⟨ds, e, h⟩
    have e : (match (ρ.at i).map (fun a => (argF a.1, a.2)), argsOf ρ l with | some d, some ds => some (d :: ds) | _, _ => none) = some ds := e
    cases q0 : ρ.at i with
    | none => rw [q0] at e; cases e
    | some a =>
      cases q : argsOf ρ l with
      | none => rw [q0, q] at e; cases e
      | some es => rw [q0, q] at e; cases e; exact ⟨a, q0, es, q, h⟩
  · rintro ⟨a, e0, ds, e, h⟩
    refine ⟨(argF a.1, a.2) :: ds, ?_, h⟩
    show (match (ρ.at i).map (fun a => (argF a.1, a.2)), argsOf ρ l with | some d, some ds => some (d :: ds) | _, _ => none) = _
    rw [e0, e]
    rfl
theorem ar_nil {k : List Val → Prop} : argK (o :: ρ) [] k = k [] := ar_nil0
theorem ar_x {k : List Val → Prop} : argK (o :: ρ) (.x a :: l) k = flK a (fun f d => argK (o :: ρ) l (fun vs => k ((f, d) :: vs))) := ar_x0
theorem ar_v {k : List Val → Prop} : argK (o :: ρ) (.v i :: l) k = atK (o :: ρ) i (fun a => flK a (fun f d => argK (o :: ρ) l (fun vs => k ((f, d) :: vs)))) := ar_v0
/-- behind a call -/
def backK (ρ : Rho) (l : List Opd) (outs : List Val) (k : Rho → Prop) : Prop := k (putOuts ρ l outs)
theorem bk_nil {outs : List Val} {k : Rho → Prop} : backK (o :: ρ) [] outs k = k (o :: ρ) := by cases outs <;> rfl
theorem bk_x {outs : List Val} {v : Val} {k : Rho → Prop} : backK ρ (.x a :: l) (v :: outs) k = backK ρ l outs k := rfl
theorem bk_i {outs : List Val} {k : Rho → Prop} : backK ρ (.v i :: l) ((.imm, d) :: outs) k = backK ρ l outs k := rfl
/-- a list that was handed in holds d now -/
def wrK (ρ : Rho) (i : Nat) (p : Bool) (d : D) (k k0 : Rho → Prop) : Prop := match ρ.at i with
  | some (q, _) => k (ρ.put i (some (if p = true then leakF q else q, d)))
  | none => k0 ρ
theorem wr_S {p : Bool} {k k0 : Rho → Prop} : wrK (o :: ρ) (n + 1) p d k k0 = wrK ρ n p d (fun r => k (o :: r)) (fun r => k0 (o :: r)) := by
  show (match Rho.at ρ n with | some (q, _) => k (o :: Rho.put ρ n (some (if p = true then leakF q else q, d))) | none => k0 (o :: ρ)) = _
  unfold wrK
  cases Rho.at ρ n <;> rfl
theorem wr_0f {e : D} {k k0 : Rho → Prop} : wrK (some (f, e) :: ρ) 0 false d k k0 = k (some (f, d) :: ρ) := rfl
theorem wr_0o {e : D} {k k0 : Rho → Prop} : wrK (some (.own, e) :: ρ) 0 true d k k0 = k (some (.imm, d) :: ρ) := rfl
theorem wr_0p {e : D} {k k0 : Rho → Prop} : wrK (some (.par, e) :: ρ) 0 true d k k0 = k (some (.parl, d) :: ρ) := rfl
theorem bk_p {outs : List Val} {k : Rho → Prop} : backK ρ (.v i :: l) ((.par, d) :: outs) k = wrK ρ i false d (fun r => backK r l outs k) k := by
  unfold backK wrK
  show k (match ρ.at i with | some (o, _) => putOuts (ρ.put i (some (o, d))) l outs | none => ρ) = _
  cases ρ.at i <;> rfl
theorem bk_l {outs : List Val} {k : Rho → Prop} : backK ρ (.v i :: l) ((.parl, d) :: outs) k = wrK ρ i true d (fun r => backK r l outs k) k := by
  unfold backK wrK
  show k (match ρ.at i with | some (o, _) => putOuts (ρ.put i (some (leakF o, d))) l outs | none => ρ) = _
  cases ρ.at i <;> rfl
def ownI (b : Option Val) (i : Nat) (r : List Nat) : List Nat := match b with
  | some (.own, _) => i :: r
  | some (.par, _) => i :: r
  | _ => r
theorem ow_nil : ownIx (o :: ρ) [] = [] := rfl
theorem ow_x : ownIx (o :: ρ) (.x a :: l) = ownIx (o :: ρ) l := rfl
theorem ow_v : ownIx (o :: ρ) (.v i :: l) = ownI (Rho.at (o :: ρ) i) i (ownIx (o :: ρ) l) := by
  show (match Rho.at (o :: ρ) i with
    | some (.own, _) => i :: ownIx (o :: ρ) l
    | some (.par, _) => i :: ownIx (o :: ρ) l
    | _ => ownIx (o :: ρ) l) = _
  unfold ownI
  rfl
theorem oi_o {r : List Nat} : ownI (some (.own, d)) i r = i :: r := rfl
theorem oi_p {r : List Nat} : ownI (some (.par, d)) i r = i :: r := rfl
theorem oi_i {r : List Nat} : ownI (some (.imm, d)) i r = r := rfl
theorem oi_l {r : List Nat} : ownI (some (.parl, d)) i r = r := rfl
theorem wb_nil : wipeB (o :: ρ) [] = true := rfl
def wipI (b : Option Val) : Bool := match b with
  | some (.par, _) => false
  | some (.parl, _) => false
  | _ => true
theorem wb_c {is : List Nat} : wipeB (o :: ρ) (n :: is) = (wipI (Rho.at (o :: ρ) n) && wipeB (o :: ρ) is) := rfl
theorem wpi_n : wipI none = true := rfl
theorem wpi_i : wipI (some (.imm, d)) = true := rfl
theorem wpi_o : wipI (some (.own, d)) = true := rfl
/-! targets -/
theorem as_0 {k : Rho → Prop} : asgTg (.v 0) a (o :: ρ) k = npP o (k (some a :: ρ)) := rfl
theorem as_S {k : Rho → Prop} : asgTg (.v (n + 1)) a (o :: ρ) k = asgTg (.v n) a ρ (fun r => k (o :: r)) := rfl
theorem as_vs {k : Rho → Prop} {is : List Nat} : asgTg (.vs is) (f, .tup xs) (o :: ρ) k = asgVs is xs (o :: ρ) k := rfl
theorem as_c {k : Rho → Prop} {is : List Nat} : asgVs (n :: is) (d :: xs) (o :: ρ) k = asgTg (.v n) (.imm, d) (o :: ρ) (fun r => asgVs is xs r k) := rfl
theorem pu_c {k : Rho → Prop} {is : List Nat} {os : List Opd} : putVals (n :: is) (.x a :: os) (o :: ρ) k = asgTg (.v n) a (o :: ρ) (fun r => putVals is os r k) := rfl
theorem av_n {k : Rho → Prop} : asgVs [] [] (o :: ρ) k = k (o :: ρ) := rfl
theorem pu_n {k : Rho → Prop} : putVals [] [] (o :: ρ) k = k (o :: ρ) := rfl
/-! small looks -/
def trK (a : Val) (k : Bool → Prop) : Prop := ∃ b, truthD a.2 = some b ∧ k b
theorem tr_b {b : Bool} {k : Bool → Prop} : trK (f, .bl b) k = k b := ex_some
theorem tr_i {j : Int} {k : Bool → Prop} : trK (f, .int j) k = k (j != 0) := ex_some
theorem tr_n {k : Bool → Prop} : trK (f, .non) k = k false := ex_some
theorem tr_l {k : Bool → Prop} : trK (f, .lst xs) k = k (!xs.isEmpty) := ex_some
theorem tr_t {k : Bool → Prop} : trK (f, .tup xs) k = k (!xs.isEmpty) := ex_some
theorem tr_s {z : Str} {k : Bool → Prop} : trK (f, .str z) k = (z.length ≤ line ∧ k (z.length != 0)) := by
  apply propext
  constructor
  · rintro ⟨b, e, h⟩
    have e : (if z.length ≤ line then some (z.length != 0) else none) = some b := e
    split at e <;> cases e
    exact ⟨by assumption, h⟩
  · rintro ⟨h1, h⟩
    exact ⟨_, if_pos h1, h⟩
def blK (a : Val) (k : Bool → Prop) : Prop := ∃ b, a.2 = .bl b ∧ k b
theorem bl_b {b : Bool} {k : Bool → Prop} : blK (f, .bl b) k = k b := bl_ex
def inK (a : Val) (R : Prop) : Prop := match a.2 with
  | .int _ => R
  | _ => False
theorem in_i {j : Int} {R : Prop} : inK (f, .int j) R = R := rfl
theorem vl_i {k : D → Prop} : vlK (.imm, d) k = k d := rfl
theorem vl_o {k : D → Prop} : vlK (.own, d) k = k d := rfl
theorem vl_p {k : D → Prop} : vlK (.par, d) k = k d := rfl
theorem vl_l {k : D → Prop} : vlK (.parl, d) k = k d := rfl
def imK (a : Val) (k : Val → Prop) : Prop := k (leakF a.1, a.2)
theorem im_i {k : Val → Prop} : imK (.imm, d) k = k (.imm, d) := rfl
theorem im_o {k : Val → Prop} : imK (.own, d) k = k (.imm, d) := rfl
theorem im_p {k : Val → Prop} : imK (.par, d) k = k (.parl, d) := rfl
def wiK (ρ : Rho) (is : List Nat) (k : Rho → Prop) : Prop := k (ρ.wipe is)
theorem wi_nil {k : Rho → Prop} : wiK (o :: ρ) [] k = k (o :: ρ) := rfl
theorem wi_c {is : List Nat} {k : Rho → Prop} : wiK (o :: ρ) (n :: is) k = wiK (o :: ρ) is (fun r => setK r n none k) := rfl
def sqK (a : Val) (k : List D → Prop) : Prop := ∃ ds, seqItems a.2 = some ds ∧ k ds
theorem sq_l {k : List D → Prop} : sqK (f, .lst xs) k = k xs := ex_some
theorem sq_f {k : List D → Prop} : sqK (f, .frz xs) k = k xs := ex_some
theorem sq_t {k : List D → Prop} : sqK (f, .tup xs) k = k xs := ex_some
def zpK (a b : Val) (k : List D → Prop) : Prop := ∃ ds es, seqItems a.2 = some ds ∧ seqItems b.2 = some es ∧ isTup a.2 = isTup b.2 ∧ k (zipD ds es)
theorem zp_ll {k : List D → Prop} : zpK (f, .lst xs) (g, .lst ys) k = k (zipD xs ys) := by
  unfold zpK
  show (∃ ds es, some xs = some ds ∧ some ys = some es ∧ false = false ∧ k (zipD ds es)) = _
  rw [ex_some2, eq_self, true_and]
theorem zp_tt {k : List D → Prop} : zpK (f, .tup xs) (g, .tup ys) k = k (zipD xs ys) := by
  unfold zpK
  show (∃ ds es, some xs = some ds ∧ some ys = some es ∧ true = true ∧ k (zipD ds es)) = _
  rw [ex_some2, eq_self, true_and]
def enK (a : Val) (k : List D → Prop) : Prop := ∃ ds, seqItems a.2 = some ds ∧ isTup a.2 = false ∧ k (enumD 0 ds)
theorem en_l {k : List D → Prop} : enK (f, .lst xs) k = k (enumD 0 xs) := by
  show (∃ ds, some xs = some ds ∧ false = false ∧ k (enumD 0 ds)) = _
  rw [ex_some, eq_self, true_and]
def rgK (ds : List D) (k : List D → Prop) : Prop := ∃ is, rangeD ds = some is ∧ k is
theorem rg_1 {j : Int} {k : List D → Prop} : rgK [.int j] k = ((-(2 ^ 62) ≤ j ∧ j < 2 ^ 62) ∧ k (rangeI 0 j.toNat)) := by
  apply propext
  constructor
  · rintro ⟨is, e, h⟩
    have e : (if -(2 ^ 62) ≤ j ∧ j < 2 ^ 62 then some (rangeI 0 j.toNat) else none) = some is := e
    split at e <;> cases e
    exact ⟨by assumption, h⟩
  · rintro ⟨h1, h⟩
    exact ⟨_, if_pos h1, h⟩
theorem rg_2 {i j : Int} {k : List D → Prop} : rgK [.int i, .int j] k = ((-(2 ^ 62) ≤ i ∧ i < 2 ^ 62 ∧ -(2 ^ 62) ≤ j ∧ j < 2 ^ 62) ∧ k (rangeI i (j - i).toNat)) := by
  apply propext
  constructor
  · rintro ⟨is, e, h⟩
    have e : (if -(2 ^ 62) ≤ i ∧ i < 2 ^ 62 ∧ -(2 ^ 62) ≤ j ∧ j < 2 ^ 62 then some (rangeI i (j - i).toNat) else none) = some is := e
    split at e <;> cases e
    exact ⟨by assumption, h⟩
  · rintro ⟨h1, h⟩
    exact ⟨_, if_pos h1, h⟩
def chK (a : Val) (k : List D → Prop) : Prop := match a.2 with
  | .str z => k (charsD z)
  | _ => False
theorem ch_s {z : Str} {k : List D → Prop} : chK (f, .str z) k = k (charsD z) := rfl
def fmK (a : Val) (k : Str → Prop) : Prop := ∃ y, fmt1 a.2 = some y ∧ k y
theorem fm_s {z : Str} {k : Str → Prop} : fmK (f, .str z) k = (z.length ≤ line ∧ k z) := by
  apply propext
  constructor
  · rintro ⟨b, e, h⟩
    have e : (if z.length ≤ line then some z else none) = some b := e
    split at e <;> cases e
    exact ⟨by assumption, h⟩
  · rintro ⟨h1, h⟩
    exact ⟨_, if_pos h1, h⟩
theorem fm_i {j : Int} {k : Str → Prop} : fmK (f, .int j) k = (j.natAbs.log2 < 1920 ∧ k (textI j)) := by
  apply propext
  constructor
  · rintro ⟨b, e, h⟩
    have e : (if j.natAbs.log2 < 1920 then some (textI j) else none) = some b := e
    split at e <;> cases e
    exact ⟨by assumption, h⟩
  · rintro ⟨h1, h⟩
    exact ⟨_, if_pos h1, h⟩
/-- x[i] = d -/
def stK (b j c : Val) (k : Val → Prop) : Prop := match b, j.2 with
  | (f, .lst ds), .int n => ownF f = true ∧ ∃ m, ixN ds.length n = some m ∧ k (f, .lst (ds.set m c.2))
  | _, _ => False
theorem st_n {ds : List D} {j : Int} {k : Val → Prop} {h : Fl} : stK (f, .lst ds) (g, .int j) (h, d) k = (ownF f = true ∧ ∃ m, ixN ds.length j = some m ∧ k (f, .lst (ds.set m d))) := rfl
theorem st_0 {x0 : D} {k : Val → Prop} {h : Fl} : stK (f, .lst (x0 :: xs)) (g, .int 0) (h, d) k = (ownF f = true ∧ k (f, .lst (d :: xs))) := by rw [st_n, i_0, ex_some]; rfl
theorem st_1 {x0 x1 : D} {k : Val → Prop} {h : Fl} : stK (f, .lst (x0 :: x1 :: xs)) (g, .int 1) (h, d) k = (ownF f = true ∧ k (f, .lst (x0 :: d :: xs))) := by rw [st_n, i_1, ex_some]; rfl
theorem st_2 {x0 x1 x2 : D} {k : Val → Prop} {h : Fl} : stK (f, .lst (x0 :: x1 :: x2 :: xs)) (g, .int 2) (h, d) k = (ownF f = true ∧ k (f, .lst (x0 :: x1 :: d :: xs))) := by rw [st_n, i_2, ex_some]; rfl
theorem st_3 {x0 x1 x2 x3 : D} {k : Val → Prop} {h : Fl} : stK (f, .lst (x0 :: x1 :: x2 :: x3 :: xs)) (g, .int 3) (h, d) k = (ownF f = true ∧ k (f, .lst (x0 :: x1 :: x2 :: d :: xs))) := by rw [st_n, i_3, ex_some]; rfl
theorem st_4 {x0 x1 x2 x3 x4 : D} {k : Val → Prop} {h : Fl} : stK (f, .lst (x0 :: x1 :: x2 :: x3 :: x4 :: xs)) (g, .int 4) (h, d) k = (ownF f = true ∧ k (f, .lst (x0 :: x1 :: x2 :: x3 :: d :: xs))) := by rw [st_n, i_4, ex_some]; rfl
def apK (b c : Val) (k : Val → Prop) : Prop := match b with
  | (f, .lst ds) => ownF f = true ∧ ds.length < line ∧ k (f, .lst (ds ++ [c.2]))
  | _ => False
theorem ap_l {ds : List D} {k : Val → Prop} : apK (f, .lst ds) (g, d) k = (ownF f = true ∧ ds.length < line ∧ k (f, .lst (ds ++ [d]))) := rfl
def rvK (a : Val) (i : Nat) (ρ : Rho) (k : Q1) : Prop := match a with
  | (.own, d) => setK ρ i none (k (.own, d))
  | (.par, d) => setK ρ i (some (.parl, d)) (k (.imm, d))
  | (_, d) => k (.imm, d) ρ
theorem rv_o {k : Q1} : rvK (.own, d) i ρ k = setK ρ i none (k (.own, d)) := rfl
theorem rv_p {k : Q1} : rvK (.par, d) i ρ k = setK ρ i (some (.parl, d)) (k (.imm, d)) := rfl
theorem rv_i {k : Q1} : rvK (.imm, d) i ρ k = k (.imm, d) ρ := rfl
theorem rv_l {k : Q1} : rvK (.parl, d) i ρ k = k (.imm, d) ρ := rfl
/-- a def's end -/
def ouK (vs : List Val) (ρ : Rho) (k : List Val → Prop) : Prop := ∃ os, outsOf vs ρ = some os ∧ k os
theorem oK_nil {k : List Val → Prop} : ouK [] (o :: ρ) k = k [] := by
  unfold ouK
  rw [ou_nil, ex_some]
theorem oK_nil0 {k : List Val → Prop} : ouK [] ([] : Rho) k = k [] := by
  unfold ouK
  rw [ou_nil, ex_some]
theorem oK_map {vs : List Val} {v : Val} {k : List Val → Prop} {r : Option (List Val)} : (∃ os, r.map (v :: ·) = some os ∧ k os) = ∃ os, r = some os ∧ k (v :: os) := by
  apply propext
  cases r with
  | none => exact ⟨(fun ⟨_, e, _⟩ => by cases e), (fun ⟨_, e, _⟩ => by cases e)⟩
  | some l => exact ⟨(fun ⟨_, e, h⟩ => by cases e; exact ⟨l, rfl, h⟩), (fun ⟨_, e, h⟩ => by cases e; exact ⟨_, rfl, h⟩)⟩
theorem oK_i {vs : List Val} {k : List Val → Prop} : ouK ((.imm, d) :: vs) (o :: ρ) k = ouK vs ρ (fun os => k ((.imm, d) :: os)) := by
  unfold ouK
  rw [ou_imm, oK_map (vs := vs)]
theorem oK_p {vs : List Val} {e : D} {k : List Val → Prop} : ouK ((.par, d) :: vs) (some (.par, e) :: ρ) k = ouK vs ρ (fun os => k ((.par, e) :: os)) := by
  unfold ouK
  rw [ou_par, oK_map (vs := vs)]
theorem oK_l {vs : List Val} {e : D} {k : List Val → Prop} : ouK ((.par, d) :: vs) (some (.parl, e) :: ρ) k = ouK vs ρ (fun os => k ((.parl, e) :: os)) := by
  unfold ouK
  rw [ou_parl, oK_map (vs := vs)]
/-! ### statements -/
/-- what follows a statement -/
def nxK (G : Glob) (r : Ss) (K : Kont) (ρ : Rho) : Prop := wpSs G r ρ K
theorem g_nx {r : Ss} : nxK G r K (o :: ρ) = wpSs G r (o :: ρ) K := rfl
theorem g_nil : wpSs G .nil (o :: ρ) K = K.nx (o :: ρ) := rfl
theorem g_cons {s : S} {r : Ss} : wpSs G (.cons s r) (o :: ρ) K = wpS G s (o :: ρ) ⟨nxK G r K, K.rt, K.bk, K.ct, K.xx⟩ := rfl
theorem g_asg {tg : Tg} {t : T} : wpS G (.asg tg t) (o :: ρ) K = wpE G t (o :: ρ) (fun a ρ' => asgTg tg a ρ' K.nx) K.xx := rfl
theorem g_par {is : List Nat} {os : Os} : wpS G (.par is os) (o :: ρ) K = wpOs G os (o :: ρ) (fun l ρ' => putVals is.reverse l.reverse ρ' K.nx) K.xx := rfl
theorem g_setIdx {i : Nat} {k t : T} : wpS G (.setIdx i k t) (o :: ρ) K = wpE G t (o :: ρ) (fun a ρ1 => (∃ b, ρ1.at i = some b) ∧ wpE G k ρ1 (fun j ρ2 => atK ρ2 i fun b => stK b j a fun v => setK ρ2 i (some v) K.nx) K.xx) K.xx := by
  have e : ∀ (a j : Val) (ρ2 : Rho), (match ρ2.at i, j.2 with
      | some (f, .lst ds), .int n => ownF f = true ∧ ∃ m, ixN ds.length n = some m ∧ K.nx (ρ2.put i (some (f, .lst (ds.set m a.2))))
      | _, _ => False) = (atK ρ2 i fun b => stK b j a fun v => setK ρ2 i (some v) K.nx) := fun a j ρ2 => by
    unfold atK
    cases q : ρ2.at i with
    | none => simp
    | some b =>
      rw [ex_some]
      obtain ⟨f, d⟩ := b
      obtain ⟨g, e⟩ := j
      cases d <;> cases e <;> rfl
  show wpE G t (o :: ρ) (fun a ρ1 => (∃ b, ρ1.at i = some b) ∧ wpE G k ρ1 (fun j ρ2 => match ρ2.at i, j.2 with
      | some (f, .lst ds), .int n => ownF f = true ∧ ∃ m, ixN ds.length n = some m ∧ K.nx (ρ2.put i (some (f, .lst (ds.set m a.2))))
      | _, _ => False) K.xx) K.xx = _
  simp only [e]
theorem g_append {i : Nat} {t : T} : wpS G (.append i t) (o :: ρ) K = ((∃ f ds, Rho.at (o :: ρ) i = some (f, .lst ds)) ∧ wpE G t (o :: ρ) (fun a ρ1 => atK ρ1 i fun b => apK b a fun v => setK ρ1 i (some v) K.nx) K.xx) := by
  have e : ∀ (a : Val) (ρ1 : Rho), (match ρ1.at i with
      | some (f, .lst ds) => ownF f = true ∧ ds.length < line ∧ K.nx (ρ1.put i (some (f, .lst (ds ++ [a.2]))))
      | _ => False) = (atK ρ1 i fun b => apK b a fun v => setK ρ1 i (some v) K.nx) := fun a ρ1 => by
    unfold atK
    cases q : ρ1.at i with
    | none => simp
    | some b =>
      rw [ex_some]
      obtain ⟨f, d⟩ := b
      cases d <;> rfl
  show ((∃ f ds, Rho.at (o :: ρ) i = some (f, .lst ds)) ∧ wpE G t (o :: ρ) (fun a ρ1 => match ρ1.at i with
      | some (f, .lst ds) => ownF f = true ∧ ds.length < line ∧ K.nx (ρ1.put i (some (f, .lst (ds ++ [a.2]))))
      | _ => False) K.xx) = _
  simp only [e]
theorem g_ret {t : T} : wpS G (.ret t) (o :: ρ) K = wpE G t (o :: ρ) K.rt K.xx := rfl
theorem g_retV {i : Nat} : wpS G (.retV i) (o :: ρ) K = atK (o :: ρ) i (fun a => rvK a i (o :: ρ) K.rt) := by
  show (match Rho.at (o :: ρ) i with
      | some (.own, d) => K.rt (.own, d) (Rho.put (o :: ρ) i none)
      | some (.par, d) => K.rt (.imm, d) (Rho.put (o :: ρ) i (some (.parl, d)))
      | some (_, d) => K.rt (.imm, d) (o :: ρ)
      | none => False) = _
  unfold atK
  cases q : Rho.at (o :: ρ) i with
  | none => simp
  | some b =>
    rw [ex_some]
    obtain ⟨f, d⟩ := b
    cases f <;> rfl
theorem g_retN : wpS G .retN (o :: ρ) K = K.rt (.imm, .non) (o :: ρ) := rfl
theorem g_sife {c : B} {a b : Ss} : wpS G (.ife c a b) (o :: ρ) K = wpB G c (o :: ρ) (fun k ρ' => if k = true then nxK G a K ρ' else nxK G b K ρ') K.xx := rfl
theorem g_for {tg : Tg} {it : It} {b : Ss} : wpS G (.for_ tg it b) (o :: ρ) K = wpIt G it (o :: ρ) (fun items ρ' => forP (fun d ρ1 k => asgTg tg (.imm, d) ρ1 (nxK G b ⟨k, K.rt, K.nx, k, K.xx⟩)) K.nx items ρ') K.xx := rfl
theorem g_whl {c : B} {b : Ss} : wpS G (.whl c b) (o :: ρ) K = ∃ W : Nat → Rho → Prop, (∃ m, W m (o :: ρ)) ∧ ∀ m ρ, W m ρ → wpB G c ρ (fun k ρ' =>
      if k = true then nxK G b ⟨fun ρ1 => ∃ m', m' < m ∧ W m' ρ1, K.rt, K.nx, fun ρ1 => ∃ m', m' < m ∧ W m' ρ1, K.xx⟩ ρ' else K.nx ρ') K.xx := rfl
theorem g_ex {t : T} : wpS G (.ex t) (o :: ρ) K = wpE G t (o :: ρ) (fun _ ρ' => K.nx ρ') K.xx := rfl
theorem g_pass : wpS G .pass (o :: ρ) K = K.nx (o :: ρ) := rfl
theorem g_brk : wpS G .brk (o :: ρ) K = K.bk (o :: ρ) := rfl
theorem g_cont : wpS G .cont (o :: ρ) K = K.ct (o :: ρ) := rfl
/-! ### expressions -/
theorem e_var {i : Nat} : wpE G (.var i) (o :: ρ) Q X = atK (o :: ρ) i fun a => lkK a i (o :: ρ) Q := by
  show (∃ a, Rho.at (o :: ρ) i = some a ∧ Q (.imm, a.2) (Rho.leak (o :: ρ) i)) = _
  unfold atK
  cases q : Rho.at (o :: ρ) i with
  | none => simp
  | some a =>
    rw [ex_some, ex_some]
    obtain ⟨f, d⟩ := a
    unfold Rho.leak
    rw [q]
    cases f <;> rfl
theorem e_cst {d : D} : wpE G (.cst d) (o :: ρ) Q X = Q (.imm, d) (o :: ρ) := rfl
theorem e_glo {g : Nat} : wpE G (.glo g) (o :: ρ) Q X = ∃ d, G.cst g = some d ∧ Q (.imm, d) (o :: ρ) := rfl
theorem e_op {f : Op} {os : Os} : wpE G (.op f os) (o :: ρ) Q X = wpOs G os (o :: ρ) (fun l ρ' => resK ρ' l fun ds => opP f ds fun r => Q r ρ') X := rfl
theorem e_call {f : Nat} {os : Os} : wpE G (.call f os) (o :: ρ) Q X = wpOs G os (o :: ρ) (fun l ρ' => argK ρ' l fun vs => nodupB (ownIx ρ' l) = true ∧
      G.fn f vs (fun r outs => backK ρ' l outs (Q r)) (fun x outs => backK ρ' l outs (X x))) X := rfl
theorem e_tup {ts : Ts} : wpE G (.tup ts) (o :: ρ) Q X = wpTs G ts (o :: ρ) (fun ds ρ' => Q (.imm, .tup ds) ρ') X := rfl
theorem e_lst {ts : Ts} : wpE G (.lst ts) (o :: ρ) Q X = wpTs G ts (o :: ρ) (fun ds ρ' => Q (.own, .lst ds) ρ') X := rfl
theorem e_ife {c : B} {a b : T} : wpE G (.ife c a b) (o :: ρ) Q X = wpB G c (o :: ρ) (fun k ρ' => if k = true then wpE G a ρ' Q X else wpE G b ρ' Q X) X := rfl
theorem e_and {a b : T} : wpE G (.and_ a b) (o :: ρ) Q X = wpE G a (o :: ρ) (fun v ρ' => blK v fun k => if k = true then wpE G b ρ' Q X else Q (.imm, .bl false) ρ') X := rfl
theorem e_or {a b : T} : wpE G (.or_ a b) (o :: ρ) Q X = wpE G a (o :: ρ) (fun v ρ' => blK v fun k => if k = true then Q (.imm, .bl true) ρ' else wpE G b ρ' Q X) X := rfl
theorem e_not {a : T} : wpE G (.not_ a) (o :: ρ) Q X = wpE G a (o :: ρ) (fun v ρ' => blK v fun k => Q (.imm, .bl !k) ρ') X := rfl
/-- one turn of a comprehension -/
def turnC (G : Glob) (own : List Nat) (tg : Tg) (c : B) (e : T) (d : D) (a : List D × Rho) (K : List D × Rho → Prop) : Prop := asgTg tg (.imm, d) a.2 fun ρ1 => wpB G c ρ1 (fun k ρ2 =>
          if k = true then wpE G e ρ2 (fun v ρ3 => K (a.1 ++ [v.2], ρ3.wipe own)) (fun _ _ => False) else K (a.1, ρ2.wipe own)) (fun _ _ => False)
theorem turn_eq {own : List Nat} {tg : Tg} {c : B} {e : T} {d : D} {acc : List D} {K : List D × Rho → Prop} : turnC G own tg c e d (acc, o :: ρ) K = asgTg tg (.imm, d) (o :: ρ) fun ρ1 => wpB G c ρ1 (fun k ρ2 =>
          if k = true then wpE G e ρ2 (fun v ρ3 => vlK v fun d => wiK ρ3 own fun r => K (acc ++ [d], r)) (fun _ _ => False) else wiK ρ2 own fun r => K (acc, r)) (fun _ _ => False) := rfl
theorem e_comp {own : List Nat} {tg : Tg} {it : It} {c : B} {e : T} : wpE G (.comp own tg it c e) (o :: ρ) Q X = wpIt G it (o :: ρ) (fun items ρ' => items.length ≤ line ∧ wipeB ρ' own = true ∧
      wiK ρ' own fun r => forP (α := List D × Rho) (turnC G own tg c e) (fun a => Q (.own, .lst a.1) a.2) items ([], r)) X := rfl
theorem e_fmt {ts : Ts} : wpE G (.fmt ts) (o :: ρ) Q X = wpF G ts Str.empty (o :: ρ) (fun z ρ' => Q (.imm, .str z) ρ') X := rfl
theorem e_imm {t : T} : wpE G (.imm t) (o :: ρ) Q X = wpE G t (o :: ρ) (fun a ρ' => imK a fun b => Q b ρ') X := rfl
theorem f_nil {acc : Str} {K : Str → Rho → Prop} : wpF G .nil acc (o :: ρ) K X = K acc (o :: ρ) := rfl
theorem f_cons {t : T} {r : Ts} {acc : Str} {K : Str → Rho → Prop} : wpF G (.cons t r) acc (o :: ρ) K X = wpE G t (o :: ρ) (fun a ρ1 => fmK a fun y => (acc ++ y).length ≤ line ∧ wpF G r (acc ++ y) ρ1 K X) X := rfl
theorem s_nil {K : List Opd → Rho → Prop} : wpOs G .nil (o :: ρ) K X = K [] (o :: ρ) := rfl
theorem s_v {i : Nat} {r : Os} {K : List Opd → Rho → Prop} : wpOs G (.v i r) (o :: ρ) K X = ((∃ b, Rho.at (o :: ρ) i = some b) ∧ wpOs G r (o :: ρ) (fun l ρ' => K (.v i :: l) ρ') X) := by
  show (match Rho.at (o :: ρ) i with
      | none => False
      | some _ => wpOs G r (o :: ρ) (fun l ρ' => K (.v i :: l) ρ') X) = _
  cases q : Rho.at (o :: ρ) i with
  | none => simp
  | some b => simp
theorem s_e {t : T} {r : Os} {K : List Opd → Rho → Prop} : wpOs G (.e t r) (o :: ρ) K X = wpE G t (o :: ρ) (fun a ρ1 => wpOs G r ρ1 (fun l ρ' => K (.x a :: l) ρ') X) X := rfl
theorem s_n {t : T} {r : Os} {K : List Opd → Rho → Prop} : wpOs G (.n t r) (o :: ρ) K X = wpE G t (o :: ρ) (fun a ρ1 => inK a (wpOs G r ρ1 (fun l ρ' => K (.x a :: l) ρ') X)) X := rfl
theorem t_nil {K : List D → Rho → Prop} : wpTs G .nil (o :: ρ) K X = K [] (o :: ρ) := rfl
theorem t_cons {t : T} {r : Ts} {K : List D → Rho → Prop} : wpTs G (.cons t r) (o :: ρ) K X = wpE G t (o :: ρ) (fun a ρ1 => vlK a fun d => wpTs G r ρ1 (fun l ρ' => K (d :: l) ρ') X) X := rfl
theorem b_tt {K : Bool → Rho → Prop} : wpB G .tt (o :: ρ) K X = K true (o :: ρ) := rfl
theorem b_t {t : T} {K : Bool → Rho → Prop} : wpB G (.t t) (o :: ρ) K X = wpE G t (o :: ρ) (fun v ρ' => trK v fun k => K k ρ') X := rfl
theorem b_look {i : Nat} {K : Bool → Rho → Prop} : wpB G (.look i) (o :: ρ) K X = atK (o :: ρ) i fun a => trK a fun k => K k (o :: ρ) := by
  apply propext
  constructor
  · rintro ⟨a, k, h1, h2, h3⟩
    exact ⟨a, h1, k, h2, h3⟩
  · rintro ⟨a, h1, k, h2, h3⟩
    exact ⟨a, k, h1, h2, h3⟩
theorem b_and {a b : B} {K : Bool → Rho → Prop} : wpB G (.and_ a b) (o :: ρ) K X = wpB G a (o :: ρ) (fun k ρ' => if k = true then wpB G b ρ' K X else K false ρ') X := rfl
theorem b_or {a b : B} {K : Bool → Rho → Prop} : wpB G (.or_ a b) (o :: ρ) K X = wpB G a (o :: ρ) (fun k ρ' => if k = true then K true ρ' else wpB G b ρ' K X) X := rfl
theorem b_not {a : B} {K : Bool → Rho → Prop} : wpB G (.not_ a) (o :: ρ) K X = wpB G a (o :: ρ) (fun k ρ' => K (!k) ρ') X := rfl
theorem i_seq {t : T} {K : List D → Rho → Prop} : wpIt G (.seq t) (o :: ρ) K X = wpE G t (o :: ρ) (fun v ρ' => sqK v fun ds => K ds ρ') X := rfl
theorem i_range {os : Os} {K : List D → Rho → Prop} : wpIt G (.range os) (o :: ρ) K X = wpOs G os (o :: ρ) (fun l ρ' => resK ρ' l fun ds => rgK ds fun is => K is ρ') X := by
  have e : ∀ (l : List Opd) (ρ' : Rho), (∃ ds is, resolve ρ' l = some ds ∧ rangeD ds = some is ∧ K is ρ') = (resK ρ' l fun ds => rgK ds fun is => K is ρ') := fun l ρ' => by
    apply propext
    constructor
    · rintro ⟨ds, is, h1, h2, h3⟩
      exact ⟨ds, h1, is, h2, h3⟩
    · rintro ⟨ds, h1, is, h2, h3⟩
      exact ⟨ds, is, h1, h2, h3⟩
  show wpOs G os (o :: ρ) (fun l ρ' => ∃ ds is, resolve ρ' l = some ds ∧ rangeD ds = some is ∧ K is ρ') X = _
  simp only [e]
theorem i_chars {t : T} {K : List D → Rho → Prop} : wpIt G (.chars t) (o :: ρ) K X = wpE G t (o :: ρ) (fun v ρ' => chK v fun ds => K ds ρ') X := by
  show wpE G t (o :: ρ) (fun v ρ' => match v.2 with
      | .str z => K (charsD z) ρ'
      | _ => False) X = _
  rfl
theorem i_zip {a b : T} {K : List D → Rho → Prop} : wpIt G (.zip a b) (o :: ρ) K X = wpE G a (o :: ρ) (fun v ρ1 => wpE G b ρ1 (fun w ρ2 => zpK v w fun ds => K ds ρ2) X) X := rfl
theorem i_enum {a : T} {K : List D → Rho → Prop} : wpIt G (.enum a) (o :: ρ) K X = wpE G a (o :: ρ) (fun v ρ1 => enK v fun ds => K ds ρ1) X := rfl
theorem run_eq {np nl : Nat} {b : Ss} {vs : List Val} {R : Val → List Val → Prop} {E : D → List Val → Prop} : runF G np nl b vs R E = (vs.length = np ∧ wpSs G b (vs.map some ++ List.replicate nl none)
    ⟨fun ρ => ouK vs ρ (R (.imm, .non)), fun a ρ => ouK vs ρ (R a), fun _ => False, fun _ => False, fun x ρ => ouK vs ρ (E x)⟩) := rfl
/-- what is behind a statement, by a name -/
structure NxH (Nx P : Rho → Prop) : Prop where
  out : ∀ ρ, P ρ → Nx ρ
theorem cutS {s : S} {r : Ss} {ρ : Rho} {k1 k3 k4 : Rho → Prop} {k2 : Q1} {k5 : X1} (h : ∀ Nx, NxH Nx (nxK G r ⟨k1, k2, k3, k4, k5⟩) → wpS G s ρ ⟨Nx, k2, k3, k4, k5⟩) : wpSs G (.cons s r) ρ ⟨k1, k2, k3, k4, k5⟩ := h _ ⟨fun _ z => z⟩
theorem cutA {tg : Tg} {a : Val} {b : Ss} {ρ : Rho} (h : ∀ Nx, NxH Nx (nxK G b K) → asgTg tg a ρ Nx) : asgTg tg a ρ (nxK G b K) := h _ ⟨fun _ z => z⟩
/-- held until what it gets is known -/
def Hol (R : Val → List Val → Prop) (v : Val) (l : List Val) : Prop := R v l
theorem hol {R : Val → List Val → Prop} {v : Val} {l : List Val} (h : R v l) : Hol R v l := h
/-! ### items by a number -/
theorem ix_l0 {x0 : D} {P : Val → Prop} : opP .idx [.lst (x0 :: xs), .int 0] P = P (.imm, x0) := by rw [o_idxl, a_0, ex_some]
theorem ix_l1 {x0 x1 : D} {P : Val → Prop} : opP .idx [.lst (x0 :: x1 :: xs), .int 1] P = P (.imm, x1) := by rw [o_idxl, a_1, ex_some]
theorem ix_l2 {x0 x1 x2 : D} {P : Val → Prop} : opP .idx [.lst (x0 :: x1 :: x2 :: xs), .int 2] P = P (.imm, x2) := by rw [o_idxl, a_2, ex_some]
theorem ix_l3 {x0 x1 x2 x3 : D} {P : Val → Prop} : opP .idx [.lst (x0 :: x1 :: x2 :: x3 :: xs), .int 3] P = P (.imm, x3) := by rw [o_idxl, a_3, ex_some]
theorem ix_l4 {x0 x1 x2 x3 x4 : D} {P : Val → Prop} : opP .idx [.lst (x0 :: x1 :: x2 :: x3 :: x4 :: xs), .int 4] P = P (.imm, x4) := by rw [o_idxl, a_4, ex_some]
theorem ix_t0 {x0 : D} {P : Val → Prop} : opP .idx [.tup (x0 :: xs), .int 0] P = P (.imm, x0) := by rw [o_idxt, a_0, ex_some]
theorem ix_t1 {x0 x1 : D} {P : Val → Prop} : opP .idx [.tup (x0 :: x1 :: xs), .int 1] P = P (.imm, x1) := by rw [o_idxt, a_1, ex_some]
theorem ix_t2 {x0 x1 x2 : D} {P : Val → Prop} : opP .idx [.tup (x0 :: x1 :: x2 :: xs), .int 2] P = P (.imm, x2) := by rw [o_idxt, a_2, ex_some]
theorem ix_t3 {x0 x1 x2 x3 : D} {P : Val → Prop} : opP .idx [.tup (x0 :: x1 :: x2 :: x3 :: xs), .int 3] P = P (.imm, x3) := by rw [o_idxt, a_3, ex_some]
end
end Ev
set_option Elab.async false
set_option linter.all false
set_option autoImplicit false
set_option maxRecDepth 100000
set_option maxHeartbeats 1000000
namespace Ev
open PySem PySem.Spec PyProof.Rows L2
/-! ### instances are made: C(..) -/
section
variable {P : Program} {w : World} {K : PySem.W.Frag} {mg : Str → Option Value} {base : Heap} {A : Around} {outer : List Env} {H H2 : Hp} {s : Shared} {p : Addr} {o : HO} {h' : Heap} {E : XK}
theorem env_laid (e0 : Env0 P w K mg base A outer s H) (kk : ∀ b u, s.heap.get? b = some u → h'.get? b = some u) (hp : s.heap.objs.size ≤ p) (hs : s.heap.objs.size ≤ h'.objs.size) (new : ObjOk P w (upd H p o) h' p o) : Env0 P w K mg base A outer { s with heap := h' } (upd H p o) := by
  have nb : ∀ {b : Addr} {u : Obj}, s.heap.get? b = some u → b ≠ p := fun {b u} e => Nat.ne_of_lt (Nat.lt_of_lt_of_le (Heap.lt_size e) hp)
  exact {
    frames := e0.frames
    mod := e0.mod
    bs := fun b u e => by
      obtain ⟨h1, h2⟩ := e0.bs b u e
      exact ⟨kk b u h1, by rw [upd_ne (nb h1)]; exact h2⟩
    bsz := Nat.le_trans e0.bsz hs
    funs := e0.funs.of_keeps fun b u hb _ => ⟨u, kk b u hb, rfl⟩
    frf := fun b hb => by
      by_cases hbe : b = p
      · subst hbe
        obtain ⟨_, u, hu, _⟩ := e0.funs.mem hb
        exact (nb hu rfl).elim
      · rw [upd_ne hbe]; exact e0.frf b hb
    hok := e0.hok.laid kk hp new
    bare := e0.bare }
theorem cx_laid {s2 : Shared} {e : Value} {s' : Shared} (kk : ∀ b u, s.heap.get? b = some u → s2.heap.get? b = some u) (hH : ∀ b u, H b = some u → H2 b = some u) (hf : ∀ b u, s.heap.get? b = some u → H b = none → H2 b = none) (ho : s2.os = s.os) (h : L2.CX P w outer H2 s2 E e s') : L2.CX P w outer H s E e s' := by
  obtain ⟨a, B, H', cls, d, e1, fl, hok, ub, na, os, ag, hE⟩ := h
  exact ⟨a, B, H', cls, d, e1, fl, hok, {
    keep := fun b u q n hb => ub.keep b u (kk b u q) (hf b u q n) hb
    slot := fun b u q hb => ub.slot b u (kk b u q) hb
    free := fun b u q n => ub.free b u (kk b u q) (hf b u q n)
    there := fun b u q hb => ub.there b u (kk b u q) hb
    tups := fun b xs q => ub.tups b xs (hH b _ q)
    frzs := fun b u xs q => ub.frzs b u xs (hH b _ q)
    tbls := fun b ps q => ub.tbls b ps (hH b _ q) }, na, os.trans ho, ag, hE⟩
end
/-- C(..), by what its __init__ does -/
def objT (c : Nat) (Ti : Tr) : Tr := fun as Q X => Ti ((.par, .obj c []) :: as) (fun r outs => ∃ fl fs rest, outs = (fl, .obj c fs) :: rest ∧ r = (.imm, .non) ∧ Q (.imm, .obj c fs) rest) (fun x outs => ∃ a rest, outs = a :: rest ∧ X x rest)
theorem outs_cons {as : List Val} {e : Rho} {outs : List Val} {d0 : D} (h : outsOf ((.par, d0) :: as) e = some outs) : ∃ (fl : Fl) (d : D) (e' : Rho) (rest : List Val), e = some (fl, d) :: e' ∧ (fl = .par ∨ fl = .parl) ∧ outs = (fl, d) :: rest ∧ outsOf as e' = some rest := by
  cases e with
  | nil => cases h
  | cons x e' =>
    cases x with
    | none => cases h
    | some b =>
      obtain ⟨fl, d⟩ := b
      cases fl with
      | imm => cases h
      | own => cases h
      | par =>
        have h : (outsOf as e').map ((.par, d) :: ·) = some outs := h
        cases q : outsOf as e' with
        | none => rw [q] at h; cases h
        | some r => rw [q] at h; cases h; exact ⟨.par, d, e', r, rfl, .inl rfl, rfl, q⟩
      | parl =>
        have h : (outsOf as e').map ((.parl, d) :: ·) = some outs := h
        cases q : outsOf as e' with
        | none => rw [q] at h; cases h
        | some r => rw [q] at h; cases h; exact ⟨.parl, d, e', r, rfl, .inr rfl, rfl, q⟩
section
variable {N : Nm} {I I' : Addr → Prop} {H H2 H3 : Hp} {as : List Val} {vs : List V} {x dx : Addr} {c : Nat}
theorem psOf_cons {d : D} : psOf ((.par, d) :: as) (.ref x :: vs) = some x :: psOf as vs := rfl
/-- the callee's beginning, with the new instance -/
theorem R.made (r : R N (thOf H I as vs) I (vs.map some) H (as.map some)) (ok : N.ok c) (hx : H x = none) (hd : H dx = none) (ne : dx ≠ x) :
    R N (thOf (upd (upd H dx (.own x)) x (.ins (N.cls c) dx [])) I ((.par, .obj c []) :: as) (.ref x :: vs)) I ((V.ref x :: vs).map some) (upd (upd H dx (.own x)) x (.ins (N.cls c) dx [])) ((((.par, .obj c []) : Val) :: as).map some) := by
  have kk : ∀ b u, H b = some u → (upd (upd H dx (.own x)) x (.ins (N.cls c) dx [])) b = some u := fun b u z => by
    rw [upd_ne (ne_of_none z hx), upd_ne (ne_of_none z hd)]
    exact z
  have nI : ¬ I x := fun z => by
    obtain ⟨u, q⟩ := r.there x z
    rw [hx] at q
    cases q
  refine ⟨fun j a h => ?_, fun i j p a b h1 h2 o1 o2 w1 w2 => ?_, fun p o z _ => z, fun p o z => ⟨o, z⟩, fun p z => z, fun p z => .inl z, fun p z => ?_, fun i a p h ow hw => ?_, fun i p h => ?_⟩
  · cases j with
    | zero =>
      cases h
      exact ⟨_, rfl, (repV_own (a := (.par, .obj c [])) rfl).mpr ⟨x, rfl, nI, ⟨ok, fun q hq => by cases hq⟩, dx, [], upd_same, rfl⟩⟩
    | succ j =>
      obtain ⟨v, hv, q⟩ := r.rep j a h
      refine ⟨v, hv, q.mono (fun _ z => z) (fun p o _ z => kk p o z) fun p ep ow => ⟨?_, kk p⟩⟩
      obtain ⟨p', e', n, _⟩ := (repV_own ow).mp q
      rw [ep] at e'
      cases e'
      exact n
  · have old : ∀ (j : Nat) (b : Val), (as.map some)[j]? = some (some b) → ownF b.1 = true → (vs.map some)[j]? = some (some (V.ref x)) → False := fun j b h ow hw => by
      obtain ⟨v, hv, q⟩ := r.rep j b h
      rw [hw] at hv
      cases hv
      obtain ⟨p', e', _, cc⟩ := (repV_own ow).mp q
      cases e'
      obtain ⟨u, hu⟩ := cc.there
      rw [hx] at hu
      cases hu
    cases i with
    | zero =>
      cases j with
      | zero => rfl
      | succ j =>
        cases w1
        exact (old j b h2 o2 w2).elim
    | succ i =>
      cases j with
      | zero =>
        cases w2
        exact (old i a h1 o1 w1).elim
      | succ j => rw [r.dis i j p a b h1 h2 o1 o2 w1 w2]
  · obtain ⟨u, q⟩ := r.there p z
    exact ⟨u, kk _ _ q⟩
  · cases i with
    | zero =>
      cases hw
      exact .inl (List.mem_cons_self ..)
    | succ i =>
      rcases r.wr i a p h ow hw with z | z
      · exact .inl (List.mem_cons_of_mem _ z)
      · obtain ⟨v, hv, q⟩ := r.rep i a h
        have hw : (vs.map some)[i]? = some (some (V.ref p)) := hw
        rw [hw] at hv
        cases hv
        obtain ⟨p', e', _, cc⟩ := (repV_own ow).mp q
        cases e'
        obtain ⟨u, hu⟩ := cc.there
        have z : H p = none := z
        rw [z] at hu
        cases hu
  · cases i with
    | zero =>
      have h : some (some x) = some (some p) := h
      cases h
      exact ⟨rfl, _, rfl, .inl rfl⟩
    | succ i =>
      obtain ⟨a1, a2, a3, a4⟩ := r.pin i p h
      exact ⟨a1, a2, a3, a4⟩
/-- the end, told to the caller: the instance is handed on -/
theorem R.madeBack {wc : List (Option V)} {ec : Rho} {outs : List Val} (ok : N.ok c) (hx : H x = none) (hd : H dx = none) (ne : dx ≠ x) (ln : vs.length = as.length)
    (rc : R N (thOf (upd (upd H dx (.own x)) x (.ins (N.cls c) dx [])) I ((.par, .obj c []) :: as) (.ref x :: vs)) I' wc H3 ec) (hl : wc.length = ec.length) (hl2 : as.length + 1 ≤ ec.length) (ho : outsOf ((.par, .obj c []) :: as) ec = some outs) :
    ∃ (fl : Fl) (d : D) (rest : List Val) (I2 : Addr → Prop) (w' : List (Option V)) (e' : Rho), outs = (fl, d) :: rest ∧ outsOf as e' = some rest ∧ w'.length = e'.length ∧ as.length ≤ e'.length ∧ R N (thOf H I as vs) I2 w' H3 e' ∧ (∀ p, I' p → I2 p) ∧ Rep N I2 H3 d (.ref x) := by
  obtain ⟨fl, d, e', rest, rfl, hf, rfl, ho'⟩ := outs_cons ho
  cases wc with
  | nil => cases hl
  | cons w0 w' =>
    obtain ⟨p1, b0, p2, p3⟩ := rc.pin 0 x rfl
    cases p2
    have e0 : w0 = some (V.ref x) := Option.some.inj p1
    subst e0
    -- handed on
    have key : ∃ I2 : Addr → Prop, (∀ p, I' p → I2 p) ∧ R N (thOf (upd (upd H dx (.own x)) x (.ins (N.cls c) dx [])) I ((.par, .obj c []) :: as) (.ref x :: vs)) I2 (some (.ref x) :: w') H3 (some (.parl, d) :: e') ∧ Rep N I2 H3 d (.ref x) := by
      rcases hf with rfl | rfl
      · obtain ⟨I2, up, r2, v, hv, rv⟩ := rc.leak (i := 0) (f := .par) (d := d) rfl rfl
        cases hv
        exact ⟨I2, up, r2, rv⟩
      · obtain ⟨v, hv, rv⟩ := rc.rep 0 (.parl, d) rfl
        cases hv
        exact ⟨I', fun _ z => z, rc, (repV_imm (a := (.parl, d)) rfl).mp rv⟩
    obtain ⟨I2, up, r2, rv⟩ := key
    refine ⟨fl, d, rest, I2, w', e', rfl, ho', by simpa using hl, by simpa using hl2, ⟨fun j a h => r2.rep (j + 1) a h, fun i j p a b h1 h2 o1 o2 w1 w2 => ?_, fun p o z n => ?_, fun p o z => ?_, r2.inc, fun p z => ?_, r2.there, fun i a p h ow hw => ?_, fun i p h => ?_⟩, up, rv⟩
    · have := r2.dis (i + 1) (j + 1) p a b h1 h2 o1 o2 w1 w2
      omega
    · have z : H p = some o := z
      refine r2.keep p o (by show (upd (upd H dx (.own x)) x (.ins (N.cls c) dx [])) p = some o; rw [upd_ne (ne_of_none z hx), upd_ne (ne_of_none z hd)]; exact z) fun hp => ?_
      have hp : some p ∈ some x :: psOf as vs := hp
      rcases List.mem_cons.mp hp with e | hp
      · cases e
        rw [hx] at z
        cases z
      · exact n hp
    · have z : H p = some o := z
      exact r2.dom p o (by show (upd (upd H dx (.own x)) x (.ins (N.cls c) dx [])) p = some o; rw [upd_ne (ne_of_none z hx), upd_ne (ne_of_none z hd)]; exact z)
    · rcases r2.bnd p z with z | z | z
      · exact .inl z
      · have z : some p ∈ some x :: psOf as vs := z
        rcases List.mem_cons.mp z with e | z
        · cases e
          exact .inr (.inr hx)
        · exact .inr (.inl z)
      · have z : (upd (upd H dx (.own x)) x (.ins (N.cls c) dx [])) p = none := z
        by_cases e1 : p = x
        · subst e1
          rw [upd_same] at z
          cases z
        · rw [upd_ne e1] at z
          by_cases e2 : p = dx
          · subst e2
            rw [upd_same] at z
            cases z
          · rw [upd_ne e2] at z
            exact .inr (.inr z)
    · rcases r2.wr (i + 1) a p h ow hw with z | z
      · have z : some p ∈ some x :: psOf as vs := z
        rcases List.mem_cons.mp z with e | z
        · cases e
          exact .inr hx
        · exact .inl z
      · have z : (upd (upd H dx (.own x)) x (.ins (N.cls c) dx [])) p = none := z
        by_cases e1 : p = x
        · subst e1
          rw [upd_same] at z
          cases z
        · rw [upd_ne e1] at z
          by_cases e2 : p = dx
          · subst e2
            rw [upd_same] at z
            cases z
          · rw [upd_ne e2] at z
            exact .inr z
    · obtain ⟨a1, a2, a3, a4⟩ := r2.pin (i + 1) p h
      exact ⟨a1, a2, a3, a4⟩
theorem made_sp {Ti : Tr} {Q : VK} {E : XK} (h : spOf N (objT c Ti) vs H Q E) (ok : N.ok c) (hx : H x = none) (hd : H dx = none) (ne : dx ≠ x) :
    spOf N Ti (.ref x :: vs) (upd (upd H dx (.own x)) x (.ins (N.cls c) dx [])) (fun v H2 => v = .non ∧ Q (.ref x) H2) E := by
  obtain ⟨I, as, Q0, X0, r, lv, oka, ht, kq, kx⟩ := h
  refine ⟨I, (.par, .obj c []) :: as, _, _, r.made ok hx hd ne, by simp [lv], fun a ha => (List.mem_cons.mp ha).elim (fun e => by rw [e]; exact .inr rfl) (oka a), ht, fun rr outs ⟨fl, fs, rest, eo, er, hq⟩ v H' I' w' e' _ rc hlc hl2 ho => ?_, fun xx outs ⟨a, rest, eo, hq⟩ cls d H' I' w' e' rc hlc hl2 ho rx => ?_⟩
  · subst er
    have lp : (psOf ((.par, .obj c []) :: as) (.ref x :: vs)).length ≤ e'.length := by
      rw [ps_len (by simp [lv])]
      exact hl2
    have top : v = .non := by
      obtain ⟨u, hu, ru⟩ := rc.rep e'.length (.imm, .non) (by simp)
      rw [← hlc] at hu
      have eu : v = u := by simpa using hu
      rw [eu]
      exact (repV_imm rfl).mp ru
    obtain ⟨fl', d, rest', I2, w2, e2, eo2, ho2, hl3, hl4, r2, up, rv⟩ := R.madeBack ok hx hd ne lv (rc.pop hlc lp) hlc (by simpa using hl2) ho
    rw [eo2] at eo
    cases eo
    exact ⟨top, kq _ _ hq (.ref x) H' I2 w2 e2 (.inl rfl) (r2.push hl3 rfl rv) hl3 hl4 ho2⟩
  · obtain ⟨fl', d', rest', I2, w2, e2, eo2, ho2, hl3, hl4, r2, up, rv⟩ := R.madeBack ok hx hd ne lv rc hlc (by simpa using hl2) ho
    rw [eo2] at eo
    cases eo
    exact kx _ _ hq cls d H' I2 w2 e2 r2 hl3 hl4 ho2 (rx.up up)
/-- C(..), by the call of its __init__ -/
theorem call_make {P : Program} {w : World} {K : PySem.W.Frag} {mg : Str → Option Value} {base : Heap} {k n : Nat} {C fI : Addr} {ks : List Str} {Ti : Tr} (M : Mk K C fI) (ok : N.ok c) (eC : N.cls c = C) (F : CallOk P w K mg base k fI (n + 1) ks (spOf N Ti)) : CallOk P w K mg base (k + 1) C n ks (spOf N (objT c Ti)) := by
  intro A outer s H us ws vs zs Q E hr e0 r rz l1 l2 h
  subst eC
  have KX : K.In s.heap := e0.mod.kin.keeps fun b o e => (e0.bs b o e).1
  have m1 : (s.heap.push PySem.W.emptyDict).get? s.heap.objs.size = some PySem.W.emptyDict := Heap.get?_push_size s.heap rfl
  have m2 : ((s.heap.push PySem.W.emptyDict).push (PySem.W.instObj (N.cls c) s.heap.objs.size)).get? (s.heap.objs.size + 1) = some (PySem.W.instObj (N.cls c) s.heap.objs.size) := by
    have z := Heap.get?_push_size (s.heap.push PySem.W.emptyDict) (o := PySem.W.instObj (N.cls c) s.heap.objs.size) rfl
    rwa [Heap.size_push] at z
  have m3 : (s.heap.push PySem.W.emptyDict).Ns s.heap.objs.size (fun _ => none) := ⟨PySem.W.emptyDict, #[], _, m1, rfl, (fun e he => absurd he (by simp)), fun _ => rfl⟩
  have ne : s.heap.objs.size ≠ s.heap.objs.size + 1 := Nat.ne_of_lt (Nat.lt_succ_self _)
  have k1 : ∀ b u, s.heap.get? b = some u → (s.heap.push PySem.W.emptyDict).get? b = some u := fun b u z => Heap.get?_push_of_some _ z
  have k2 : ∀ b u, (s.heap.push PySem.W.emptyDict).get? b = some u → ((s.heap.push PySem.W.emptyDict).push (PySem.W.instObj (N.cls c) s.heap.objs.size)).get? b = some u := fun b u z => Heap.get?_push_of_some _ z
  have e1 := env_laid (o := .own (s.heap.objs.size + 1)) e0 k1 (Nat.le_refl _) (by rw [Heap.size_push]; omega) ⟨_, m1⟩
  have hd : H s.heap.objs.size = none := e0.hok.fresh (Nat.le_refl _)
  have hx : H (s.heap.objs.size + 1) = none := e0.hok.fresh (Nat.le_succ _)
  have hx' : upd H s.heap.objs.size (.own (s.heap.objs.size + 1)) (s.heap.objs.size + 1) = none := by rw [upd_ne (Ne.symm ne)]; exact hx
  have e2 := env_laid (p := s.heap.objs.size + 1) (o := .ins (N.cls c) s.heap.objs.size []) e1 k2 (by show (s.heap.push PySem.W.emptyDict).objs.size ≤ _; rw [Heap.size_push]; omega) (Nat.le_of_lt (Nat.lt_of_lt_of_eq (Nat.lt_succ_self _) (Heap.size_push _ _).symm))
    ⟨by rw [upd_ne ne, upd_same], Nat.zero_le _, ne, m2, fun _ => none, (Heap.Ns1.of_empty m3).at fun o q => k2 _ _ q, fun _ => True.intro, fun y hy => absurd rfl hy⟩
  have u1 : Un (frs outer) [] H (upd H s.heap.objs.size (.own (s.heap.objs.size + 1))) s.heap (s.heap.push PySem.W.emptyDict) := Un.laid k1 (Nat.le_refl _) hd
  have u2 : Un (frs outer) [] (upd H s.heap.objs.size (.own (s.heap.objs.size + 1))) (upd (upd H s.heap.objs.size (.own (s.heap.objs.size + 1))) (s.heap.objs.size + 1) (.ins (N.cls c) s.heap.objs.size [])) (s.heap.push PySem.W.emptyDict) ((s.heap.push PySem.W.emptyDict).push (PySem.W.instObj (N.cls c) s.heap.objs.size)) :=
    Un.laid k2 (by rw [Heap.size_push]; omega) hx'
  have hq := made_sp h ok hx hd ne
  refine make_map (f := fI) KX M.makes M.init (beq_iff_eq.mp M.fn) (codeAny_mono (F _ outer _ _ (.ref (s.heap.objs.size + 1) :: us) ws (.ref (s.heap.objs.size + 1) :: vs) zs _ E (hr.make _ us (ks.zip ws)) (e2.make _ us (ks.zip ws)) (.cons rfl r) rz (by simp [l1]) l2 hq) fun r s' hq' => ?_)
  cases r with
  | error e =>
    refine cx_laid (s2 := { s with heap := (s.heap.push PySem.W.emptyDict).push (PySem.W.instObj (N.cls c) s.heap.objs.size) }) (fun b u z => k2 b u (k1 b u z)) (fun b u z => ?_) (fun b u q n => ?_) rfl hq'
    · rw [upd_ne (ne_of_none z hx), upd_ne (ne_of_none z hd)]
      exact z
    · have lt := Heap.lt_size q
      rw [upd_ne (Nat.ne_of_lt (Nat.lt_of_lt_of_le lt (Nat.le_succ _))), upd_ne (Nat.ne_of_lt lt)]
      exact n
  | ok fl =>
    cases fl with
    | ret u =>
      obtain ⟨v, H2, os2, bare2, un2, hok2, rv, ev, q2⟩ := hq'
      subst ev
      exact ⟨rv, .ref (s.heap.objs.size + 1), H2, os2, bare2, (u1.trans u2).trans un2, hok2, rfl, q2⟩
    | next => exact hq'.elim
    | brk => exact hq'.elim
    | cont => exact hq'.elim
end
end Ev
set_option Elab.async false
set_option linter.all false
set_option autoImplicit false
set_option maxRecDepth 100000
set_option maxHeartbeats 1000000
/-! rows for instances -/
namespace Ev
open PySem
section
variable {G : Glob} {o : Option Val} {ρ : Rho} {Q : Q1} {X : X1} {K : Kont} {n i j c : Nat} {d x : D} {a : Val} {f g : Fl} {l : List Opd} {xs ys : List D} {fs : List (Nat × D)} {cs : List Nat} {kvs : List (D × D)} {z : Str} {P : Val → Prop}
def obK (a : Val) (cs : List Nat) (R : Prop) : Prop := (∃ c fs, a = (.imm, .obj c fs) ∧ c ∈ cs) ∧ R
theorem ob_o {R : Prop} : obK (.imm, .obj c fs) cs R = (c ∈ cs ∧ R) := by
  apply propext
  constructor
  · rintro ⟨⟨c', fs', e, h⟩, r⟩
    cases e
    exact ⟨h, r⟩
  · rintro ⟨h, r⟩
    exact ⟨⟨c, fs, rfl, h⟩, r⟩
theorem ob_1 {R : Prop} : obK (.imm, .obj c fs) [c] R = R := by rw [ob_o]; simp
theorem ob_2a {R : Prop} {e : Nat} : obK (.imm, .obj c fs) [c, e] R = R := by rw [ob_o]; simp
theorem ob_2b {R : Prop} {e : Nat} : obK (.imm, .obj c fs) [e, c] R = R := by rw [ob_o]; simp
theorem e_meth {h : Nat} {t : T} {os : Os} : wpE G (.meth h cs t os) (o :: ρ) Q X = wpE G t (o :: ρ) (fun a ρ1 => obK a cs (wpOs G os ρ1 (fun l ρ' => argK ρ' (.x a :: l) fun vs => nodupB (ownIx ρ' (.x a :: l)) = true ∧
      G.fn h vs (fun r outs => backK ρ' (.x a :: l) outs (Q r)) (fun x outs => backK ρ' (.x a :: l) outs (X x))) X)) X := rfl
theorem e_pure {t : T} : wpE G (.pure t) (o :: ρ) Q X = wpE G t (Rho.calm (o :: ρ)) (fun a _ => flatD a.2 = true ∧ vlK a fun d => Q (.imm, d) (o :: ρ)) (fun _ _ => False) := rfl
theorem cm_n : Rho.calm [] = [] := rfl
theorem cm_c : Rho.calm (some (f, d) :: ρ) = some (.imm, d) :: Rho.calm ρ := rfl
theorem cm_0 : Rho.calm (none :: ρ) = none :: Rho.calm ρ := rfl
def tkK (a : Val) (i : Nat) (ρ : Rho) (k : Q1) : Prop := match a with
  | (.own, d) => setK ρ i none (k (.own, d))
  | (.imm, d) => k (.imm, d) ρ
  | _ => False
theorem tk_o {k : Q1} : tkK (.own, d) i ρ k = setK ρ i none (k (.own, d)) := rfl
theorem tk_i {k : Q1} : tkK (.imm, d) i ρ k = k (.imm, d) ρ := rfl
theorem e_take {i : Nat} : wpE G (.take i) (o :: ρ) Q X = atK (o :: ρ) i fun a => tkK a i (o :: ρ) Q := by
  show (match Rho.at (o :: ρ) i with
      | some (.own, d) => Q (.own, d) (Rho.put (o :: ρ) i none)
      | some (.imm, d) => Q (.imm, d) (o :: ρ)
      | _ => False) = _
  unfold atK
  cases q : Rho.at (o :: ρ) i with
  | none => simp
  | some b =>
    rw [ex_some]
    obtain ⟨f, d⟩ := b
    cases f <;> rfl
def sfK (G : Glob) (b : Val) (f : Nat) (a : Val) (k : Val → Prop) : Prop := match b with
  | (fl, .obj c fs) => ownF fl = true ∧ G.has c f = true ∧ fs.length < 100 ∧ k (fl, .obj c (putFD f a.2 fs))
  | _ => False
theorem sf_o {k : Val → Prop} : sfK G (f, .obj c fs) i (g, d) k = (ownF f = true ∧ G.has c i = true ∧ fs.length < 100 ∧ k (f, .obj c (putFD i d fs))) := rfl
theorem g_setFld {f : Nat} {t : T} : wpS G (.setFld i f t) (o :: ρ) K = wpE G t (o :: ρ) (fun a ρ1 => atK ρ1 i fun b => sfK G b f a fun v => setK ρ1 i (some v) K.nx) K.xx := by
  have e : ∀ (a : Val) (ρ1 : Rho), (match ρ1.at i with
      | some (fl, .obj c fs) => ownF fl = true ∧ G.has c f = true ∧ fs.length < 100 ∧ K.nx (ρ1.put i (some (fl, .obj c (putFD f a.2 fs))))
      | _ => False) = (atK ρ1 i fun b => sfK G b f a fun v => setK ρ1 i (some v) K.nx) := fun a ρ1 => by
    unfold atK
    cases q : ρ1.at i with
    | none => simp
    | some b =>
      rw [ex_some]
      obtain ⟨fl, d⟩ := b
      cases d <;> rfl
  show wpE G t (o :: ρ) (fun a ρ1 => match ρ1.at i with
      | some (fl, .obj c fs) => ownF fl = true ∧ G.has c f = true ∧ fs.length < 100 ∧ K.nx (ρ1.put i (some (fl, .obj c (putFD f a.2 fs))))
      | _ => False) K.xx = _
  simp only [e]
theorem pf_n : putFD i d [] = [(i, d)] := rfl
theorem pf_c : putFD i d ((j, x) :: fs) = if j = i then (j, d) :: fs else (j, x) :: putFD i d fs := rfl
def fdK (fs : List (Nat × D)) (i : Nat) (k : D → Prop) : Prop := ∃ d, fs.lookup i = some d ∧ k d
theorem fd_c {k : D → Prop} : fdK ((j, d) :: fs) i k = if i = j then k d else fdK fs i k := by
  unfold fdK
  rw [List.lookup_cons]
  by_cases h : i = j
  · subst h
    rw [if_pos rfl, beq_self_eq_true]
    exact ex_some
  · rw [if_neg h, show (i == j) = false from by simpa using h]
theorem o_fldo : opP (.fld i) [.obj c fs] P = fdK fs i fun d => P (.imm, d) := rfl
theorem o_flde {an : List Nat} : opP (.fld i) [.exc c an fs] P = fdK fs i fun d => P (.imm, d) := rfl
theorem q_int : opP .in_ [x, .tup xs] P = (lay 60 x = true ∧ lay 60 (.tup xs) = true ∧ P (.imm, .bl (xs.any fun y => eqD y x))) := by cases x <;> rfl
theorem q_notint : opP .notin [x, .tup xs] P = (lay 60 x = true ∧ lay 60 (.tup xs) = true ∧ P (.imm, .bl (!xs.any fun y => eqD y x))) := by cases x <;> rfl
def dwK (kvs : List (D × D)) (k : D) (P : D → Prop) : Prop := ∃ d, dget kvs k = some d ∧ P d
theorem q_idxw : opP .idx [.dicw kvs, .str z] P = dwK kvs (.str z) fun d => P (.imm, d) := rfl
theorem ix_t4 {x0 x1 x2 x3 x4 : D} {P : Val → Prop} : opP .idx [.tup (x0 :: x1 :: x2 :: x3 :: x4 :: xs), .int 4] P = P (.imm, x4) := by rw [o_idxt, a_4, ex_some]
def insK (b j a : Val) (k : Val → Prop) : Prop := match b, j.2 with
  | (f, .lst ds), .int n => ownF f = true ∧ 0 ≤ n ∧ n < 2 ^ 62 ∧ ds.length < line ∧ k (f, .lst (insI ds n a.2))
  | _, _ => False
theorem ins_l {b : Int} {k : Val → Prop} : insK (f, .lst xs) (g, .int b) a k = (ownF f = true ∧ 0 ≤ b ∧ b < 2 ^ 62 ∧ xs.length < line ∧ k (f, .lst (insI xs b a.2))) := rfl
theorem g_insert {kx t : T} : wpS G (.insert i kx t) (o :: ρ) K = ((∃ f ds, Rho.at (o :: ρ) i = some (f, .lst ds)) ∧ wpE G kx (o :: ρ) (fun j ρ1 => wpE G t ρ1 (fun a ρ2 => atK ρ2 i fun b => insK b j a fun v => setK ρ2 i (some v) K.nx) K.xx) K.xx) := by
  have e : ∀ (j a : Val) (ρ2 : Rho), (match ρ2.at i, j.2 with
      | some (f, .lst ds), .int n => ownF f = true ∧ 0 ≤ n ∧ n < 2 ^ 62 ∧ ds.length < line ∧ K.nx (ρ2.put i (some (f, .lst (insI ds n a.2))))
      | _, _ => False) = (atK ρ2 i fun b => insK b j a fun v => setK ρ2 i (some v) K.nx) := fun j a ρ2 => by
    unfold atK
    cases q : ρ2.at i with
    | none => simp
    | some b =>
      rw [ex_some]
      obtain ⟨f, d⟩ := b
      obtain ⟨g, d2⟩ := j
      cases d <;> cases d2 <;> rfl
  show ((∃ f ds, Rho.at (o :: ρ) i = some (f, .lst ds)) ∧ wpE G kx (o :: ρ) (fun j ρ1 => wpE G t ρ1 (fun a ρ2 => match ρ2.at i, j.2 with
      | some (f, .lst ds), .int n => ownF f = true ∧ 0 ≤ n ∧ n < 2 ^ 62 ∧ ds.length < line ∧ K.nx (ρ2.put i (some (f, .lst (insI ds n a.2))))
      | _, _ => False) K.xx) K.xx) = _
  simp only [e]
/-- xs[-1] -/
theorem at_last {x : D} : atI (xs ++ [x]) (-1) = some x := by
  unfold atI ixN
  rw [if_neg (by decide), if_pos (by simp; omega)]
  show (xs ++ [x])[((-1 : Int) + ((xs ++ [x]).length : Int)).toNat]? = some x
  have e : ((-1 : Int) + ((xs ++ [x]).length : Int)).toNat = xs.length := by simp; omega
  rw [e]
  simp
/-! what a constructor promises, called -/
theorem objT_eq {c : Nat} {Ti : Tr} {as : List Val} {R : Val → List Val → Prop} {E : D → List Val → Prop} : objT c Ti as R E = Ti ((.par, .obj c []) :: as) (fun r outs => ∃ fl fs rest, outs = (fl, .obj c fs) :: rest ∧ r = (.imm, .non) ∧ R (.imm, .obj c fs) rest) (fun x outs => ∃ a rest, outs = a :: rest ∧ E x rest) := rfl
end
end Ev
set_option Elab.async false
set_option linter.all false
set_option autoImplicit false
set_option maxRecDepth 100000
set_option maxHeartbeats 1000000
namespace Ev
namespace Lw
open PySem PySem.Spec PyProof.Rows L2
--#nomacro
/-! ### promises -/
def fT (pre : List D → Prop) (f : List D → D) : Tr := fun as Q _ => ∃ ds, as = imms ds ∧ pre ds ∧ Q (.imm, f ds) as
/-- with the bag ahead -/
def bT (pre : List D → Prop) (R : List D → D → Prop) : Tr := fun as Q _ => ∃ bag ds, as = (.par, bag) :: imms ds ∧ Bag bag ∧ pre ds ∧ ∀ r bag', R ds r → Bag bag' → Q (.imm, r) ((.par, bag') :: imms ds)
section
variable {pre : List D → Prop} {f : List D → D} {R : List D → D → Prop} {Q : Val → List Val → Prop} {X : D → List Val → Prop} {a b c d bag : D}
theorem imms_inj : ∀ {xs ys : List D}, imms xs = imms ys → xs = ys
  | [], [], _ => rfl
  | [], _ :: _, h => by cases h
  | _ :: _, [], h => by cases h
  | x :: xs, y :: ys, h => by
    simp only [imms, List.map_cons, List.cons.injEq, Prod.mk.injEq, true_and] at h
    rw [h.1, imms_inj h.2]
theorem fT_imms {ds : List D} : fT pre f (imms ds) Q X = (pre ds ∧ Q (.imm, f ds) (imms ds)) := by
  apply propext
  constructor
  · rintro ⟨es, e, h1, h2⟩
    have := imms_inj e
    subst this
    exact ⟨h1, h2⟩
  · rintro ⟨h1, h2⟩
    exact ⟨ds, rfl, h1, h2⟩
theorem fT0 : fT pre f [] Q X = (pre [] ∧ Q (.imm, f []) []) := fT_imms (ds := [])
theorem fT1 : fT pre f [(.imm, a)] Q X = (pre [a] ∧ Q (.imm, f [a]) [(.imm, a)]) := fT_imms (ds := [a])
theorem fT2 : fT pre f [(.imm, a), (.imm, b)] Q X = (pre [a, b] ∧ Q (.imm, f [a, b]) [(.imm, a), (.imm, b)]) := fT_imms (ds := [a, b])
theorem fT3 : fT pre f [(.imm, a), (.imm, b), (.imm, c)] Q X = (pre [a, b, c] ∧ Q (.imm, f [a, b, c]) [(.imm, a), (.imm, b), (.imm, c)]) := fT_imms (ds := [a, b, c])
theorem fT4 : fT pre f [(.imm, a), (.imm, b), (.imm, c), (.imm, d)] Q X = (pre [a, b, c, d] ∧ Q (.imm, f [a, b, c, d]) [(.imm, a), (.imm, b), (.imm, c), (.imm, d)]) := fT_imms (ds := [a, b, c, d])
theorem bT_imms {ds : List D} : bT pre R ((.par, bag) :: imms ds) Q X = (Bag bag ∧ pre ds ∧ ∀ r bag', R ds r → Bag bag' → Hol Q (.imm, r) ((.par, bag') :: imms ds)) := by
  apply propext
  constructor
  · rintro ⟨bag2, es, e, h⟩
    simp only [List.cons.injEq, Prod.mk.injEq, true_and] at e
    have := imms_inj e.2
    obtain ⟨rfl, _⟩ := e
    subst this
    exact h
  · rintro h
    exact ⟨bag, ds, rfl, h⟩
theorem bT0 : bT pre R [(.par, bag)] Q X = (Bag bag ∧ pre [] ∧ ∀ r bag', R [] r → Bag bag' → Hol Q (.imm, r) [(.par, bag')]) := bT_imms (ds := [])
theorem bT1 : bT pre R [(.par, bag), (.imm, a)] Q X = (Bag bag ∧ pre [a] ∧ ∀ r bag', R [a] r → Bag bag' → Hol Q (.imm, r) [(.par, bag'), (.imm, a)]) := bT_imms (ds := [a])
theorem bT2 : bT pre R [(.par, bag), (.imm, a), (.imm, b)] Q X = (Bag bag ∧ pre [a, b] ∧ ∀ r bag', R [a, b] r → Bag bag' → Hol Q (.imm, r) [(.par, bag'), (.imm, a), (.imm, b)]) := bT_imms (ds := [a, b])
theorem drawE {many : Int} : drawT [(.par, bag), (.imm, .int many)] Q X = (Bag bag ∧ 0 < many ∧ many < 2 ^ 62 ∧ ∀ d bag', Bag bag' → 0 ≤ d → d < many → Hol Q (.imm, .int d) [(.par, bag'), (.imm, .int many)]) := by
  apply propext
  constructor
  · rintro ⟨b, m, e, h⟩
    simp only [List.cons.injEq, Prod.mk.injEq, D.int.injEq, true_and, and_true] at e
    obtain ⟨rfl, rfl⟩ := e
    exact h
  · rintro h
    exact ⟨bag, many, rfl, h⟩
theorem pickE {xs : List D} : pickT [(.par, bag), (.imm, .lst xs)] Q X = (Bag bag ∧ xs ≠ [] ∧ (xs.length : Int) < 2 ^ 62 ∧ ∀ d bag', d ∈ xs → Bag bag' → Hol Q (.imm, d) [(.par, bag'), (.imm, .lst xs)]) := by
  apply propext
  constructor
  · rintro ⟨b, g, ys, e, h0, h⟩
    simp only [List.cons.injEq, Prod.mk.injEq, D.lst.injEq, true_and, and_true] at e
    obtain ⟨rfl, rfl, rfl⟩ := e
    exact h
  · rintro h
    exact ⟨bag, .imm, xs, rfl, .inl rfl, h⟩
end
/-- a def keeps its promise -/
abbrev Ok (G : Glob) (np nl : Nat) (b : Ss) (T : Tr) : Prop := ∀ as Q X, T as Q X → runF G np nl b as Q X
theorem fT_ok {G : Glob} {np nl : Nat} {b : Ss} {pre : List D → Prop} {f : List D → D} (h : ∀ ds, pre ds → ∀ Q X, (∀ r, r = f ds → Q (.imm, r) (imms ds)) → runF G np nl b (imms ds) Q X) : Ok G np nl b (fT pre f) := by
  rintro as Q X ⟨ds, rfl, hp, hq⟩
  exact h ds hp Q X fun r e => by rw [e]; exact hq
theorem bT_ok {G : Glob} {np nl : Nat} {b : Ss} {pre : List D → Prop} {R : List D → D → Prop} (h : ∀ bag ds, Bag bag → pre ds → ∀ Q X, (∀ r bag', R ds r → Bag bag' → Q (.imm, r) ((.par, bag') :: imms ds)) → runF G np nl b ((.par, bag) :: imms ds) Q X) : Ok G np nl b (bT pre R) := by
  rintro as Q X ⟨bag, ds, rfl, hb, hp, hq⟩
  exact h bag ds hb hp Q X hq
/-! ### the rows of the promises -/
section
variable {Q : Val → List Val → Prop} {X : D → List Val → Prop} {d : D} {x y : Rat} {p q : Int}
theorem fr_inj {x y : Rat} (h : fr x = fr y) : x = y := by
  simp only [fr, D.tup.injEq, List.cons.injEq, D.int.injEq, and_true] at h
  refine Rat.ext h.1 ?_
  omega
theorem lowE : fnT rLow [(.imm, .int p), (.imm, .int q)] Q X = (q ≠ 0 ∧ q.natAbs.log2 < 8000 ∧ Q (.imm, fr (Rat.divInt p q)) [(.imm, .int p), (.imm, .int q)]) := by
  apply propext
  constructor
  · rintro ⟨ds, r, e, ⟨p', q', rfl, h1, h2, rfl⟩, h⟩
    simp only [List.map_cons, List.map_nil, List.cons.injEq, Prod.mk.injEq, D.int.injEq, true_and, and_true] at e
    obtain ⟨rfl, rfl⟩ := e
    exact ⟨h1, h2, h⟩
  · rintro ⟨h1, h2, h⟩
    exact t_low h1 h2 h
theorem plusE : fnT rPlus [(.imm, fr x), (.imm, fr y)] Q X = ((∃ k, k < 3000 ∧ 0 < k ∧ Sm k x ∧ Sm k y) ∧ Q (.imm, fr (x + y)) [(.imm, fr x), (.imm, fr y)]) := by
  apply propext
  constructor
  · rintro ⟨ds, r, e, ⟨x', y', k, rfl, h1, h2, h3, h4, rfl⟩, h⟩
    simp only [List.map_cons, List.map_nil, List.cons.injEq, Prod.mk.injEq, true_and, and_true] at e
    obtain ⟨e1, e2⟩ := e
    have e1 := fr_inj e1
    have e2 := fr_inj e2
    subst e1 e2
    exact ⟨⟨k, h1, h2, h3, h4⟩, h⟩
  · rintro ⟨⟨k, h1, h2, h3, h4⟩, h⟩
    exact ⟨[fr x, fr y], _, rfl, ⟨x, y, k, rfl, h1, h2, h3, h4, rfl⟩, h⟩
theorem timesE : fnT rTimes [(.imm, fr x), (.imm, fr y)] Q X = ((∃ k, k < 3000 ∧ 0 < k ∧ Sm k x ∧ Sm k y) ∧ Q (.imm, fr (x * y)) [(.imm, fr x), (.imm, fr y)]) := by
  apply propext
  constructor
  · rintro ⟨ds, r, e, ⟨x', y', k, rfl, h1, h2, h3, h4, rfl⟩, h⟩
    simp only [List.map_cons, List.map_nil, List.cons.injEq, Prod.mk.injEq, true_and, and_true] at e
    obtain ⟨e1, e2⟩ := e
    have e1 := fr_inj e1
    have e2 := fr_inj e2
    subst e1 e2
    exact ⟨⟨k, h1, h2, h3, h4⟩, h⟩
  · rintro ⟨⟨k, h1, h2, h3, h4⟩, h⟩
    exact ⟨[fr x, fr y], _, rfl, ⟨x, y, k, rfl, h1, h2, h3, h4, rfl⟩, h⟩
theorem textE : fnT rText [(.imm, fr x)] Q X = (x.num.natAbs.log2 < 1000 ∧ x.den.log2 < 1000 ∧ Q (.imm, .str (textF x)) [(.imm, fr x)]) := by
  apply propext
  constructor
  · rintro ⟨ds, r, e, ⟨x', rfl, h1, h2, rfl⟩, h⟩
    simp only [List.map_cons, List.map_nil, List.cons.injEq, Prod.mk.injEq, true_and, and_true] at e
    have e := fr_inj e
    subst e
    exact ⟨h1, h2, h⟩
  · rintro ⟨h1, h2, h⟩
    exact ⟨[fr x], _, rfl, ⟨x, rfl, h1, h2, rfl⟩, h⟩
theorem readE : fnT rRead [(.imm, d)] Q X = (okW d ∧ Q (.imm, readD d) [(.imm, d)]) := by
  apply propext
  constructor
  · rintro ⟨ds, r, e, ⟨x', rfl, h1, rfl⟩, h⟩
    simp only [List.map_cons, List.map_nil, List.cons.injEq, Prod.mk.injEq, true_and, and_true] at e
    subst e
    exact ⟨h1, h⟩
  · rintro ⟨h1, h⟩
    exact ⟨[d], _, rfl, ⟨d, rfl, h1, rfl⟩, h⟩
theorem isspE : fnT rIsSp [(.imm, d)] Q X = Q (.imm, .bl (isSpot d)) [(.imm, d)] := by
  apply propext
  constructor
  · rintro ⟨ds, r, e, ⟨d', rfl, rfl⟩, q⟩
    simp only [List.map_cons, List.map_nil, List.cons.injEq, Prod.mk.injEq, true_and, and_true] at e
    subst e
    exact q
  · intro q
    exact ⟨[d], _, rfl, ⟨d, rfl, rfl⟩, q⟩
end
/-- one of some numbers -/
theorem mem_int {d : D} {l : List D} (lo hi : Int) (h : d ∈ l) (c : l.all (fun e => match e with | .int q => decide (lo ≤ q) && decide (q ≤ hi) | _ => false) = true) : ∃ q, d = .int q ∧ lo ≤ q ∧ q ≤ hi := by
  have z := List.all_eq_true.mp c d h
  cases d <;> first | (cases z; done) | skip
  rename_i q
  simp only [Bool.and_eq_true, decide_eq_true_eq] at z
  exact ⟨q, rfl, z.1, z.2⟩
theorem sm_div {p q : Int} {k : Nat} (hq : q ≠ 0) (h1 : p.natAbs < 2 ^ k) (h2 : q.natAbs < 2 ^ k) : Sm k (Rat.divInt p q) := by
  have e1 : (Rat.divInt p q).num.natAbs ≤ p.natAbs := by
    rw [Rat.num_divInt, Int.natAbs_ediv_of_dvd (Int.dvd_trans (Int.gcd_dvd_right ..) (Int.dvd_mul_left ..)), Int.natAbs_mul]
    have : q.sign.natAbs = 1 := by
      rw [Int.natAbs_sign_of_ne_zero hq]
    rw [this, Nat.one_mul]
    exact Nat.div_le_self _ _
  have e2 : (Rat.divInt p q).den ≤ q.natAbs := by
    rw [Rat.den_divInt, if_neg hq]
    exact Nat.div_le_self _ _
  exact ⟨by omega, by omega⟩
theorem log_small {q : Int} {k n : Nat} (hk : 0 < k) (h : q.natAbs < 2 ^ k) (hn : k ≤ n) : q.natAbs.log2 < n := Nat.lt_of_lt_of_le (log_lt hk h) hn
end Lw
end Ev
set_option Elab.async false
set_option linter.all false
set_option autoImplicit false
set_option maxRecDepth 100000
set_option maxHeartbeats 1000000
namespace Ev
namespace Lw
open PySem PySem.Spec PyProof.Rows L2
local macro_rules | `(tactic| walk_at "v") => `(tactic| ((try refine hol ?_); try simp (config := { maxSteps := 2000000, implicitDefEqProofs := false }) only [↓pu_n, ↓av_n, pu_n, av_n, ↓at_0, ↓at_S, ↓set_0, ↓set_S, ↓lk_i, ↓lk_o, ↓lk_p, ↓lk_l, ↓re_nil, ↓re_xi, ↓re_xo, ↓re_v, ↓fl_i, ↓fl_o, ↓fl_p, ↓fl_l, ↓ar_nil, ↓ar_x, ↓ar_v, ↓bk_nil, ↓bk_x, ↓bk_i, ↓wr_S, ↓wr_0f, ↓wr_0o, ↓wr_0p, ↓bk_p, ↓bk_l, ↓as_0, ↓as_S, ↓as_vs, ↓as_c, ↓pu_c, ↓tr_b, ↓tr_i, ↓tr_n, ↓tr_l, ↓tr_t, ↓tr_s, ↓bl_b, ↓in_i, ↓vl_i, ↓vl_o, ↓vl_p, ↓vl_l, ↓im_i, ↓im_o, ↓im_p, ↓wi_nil, ↓wi_c, ↓sq_l, ↓sq_f, ↓sq_t, ↓zp_ll, ↓zp_tt, ↓en_l, ↓rg_1, ↓rg_2, ↓ch_s, ↓fm_s, ↓fm_i, ↓st_0, ↓st_1, ↓st_2, ↓st_3, ↓st_4, ↓ap_l, ↓rv_o, ↓rv_p, ↓rv_i, ↓rv_l, ↓oK_nil, ↓oK_nil0, ↓oK_i, ↓oK_p, ↓oK_l, ↓g_nx, ↓g_nil, ↓g_cons, ↓g_asg, ↓g_par, ↓g_setIdx, ↓g_append, ↓g_ret, ↓g_retV, ↓g_retN, ↓g_sife, ↓g_for, ↓g_ex, ↓g_pass, ↓g_brk, ↓g_cont, ↓e_var, ↓e_cst, ↓e_glo, ↓e_op, ↓e_call, ↓e_tup, ↓e_lst, ↓e_ife, ↓e_and, ↓e_or, ↓e_not, ↓turn_eq, ↓e_comp, ↓e_fmt, ↓e_imm, ↓f_nil, ↓f_cons, ↓s_nil, ↓s_v, ↓s_e, ↓s_n, ↓t_nil, ↓t_cons, ↓b_tt, ↓b_t, ↓b_look, ↓b_and, ↓b_or, ↓b_not, ↓i_seq, ↓i_range, ↓i_chars, ↓i_zip, ↓i_enum, ↓ix_l0, ↓ix_l1, ↓ix_l2, ↓ix_l3, ↓ix_l4, ↓ix_t0, ↓ix_t1, ↓ix_t2, ↓ix_t3, ↓o_add, ↓o_adds, ↓o_sub, ↓o_mul, ↓o_fdiv, ↓o_mod, ↓o_pow, ↓o_neg, ↓o_eq, ↓o_ne, ↓o_lt, ↓o_le, ↓o_gt, ↓o_ge, ↓o_isN, ↓o_notN, ↓o_lenl, ↓o_lent, ↓o_lenf, ↓o_lens, ↓o_abs, ↓o_toInt, ↓o_isi, ↓o_gcd, ↓o_toList, ↓o_addl, ↓o_addt, ↓q_slc11l, ↓q_slc10l, ↓q_slc01l, ↓q_slc00l, ↓q_slc11f, ↓q_slc10f, ↓q_slc01f, ↓q_slc00f, ↓q_slc11t, ↓q_slc10t, ↓q_slc01t, ↓q_slc00t, ↓q_toIntb, ↓q_toListf, ↓q_toListt, ↓q_toTuplel, ↓q_toTuplet, ↓q_slcS11, ↓q_slcS10, ↓q_slcS01, ↓q_rep, ↓q_toStr, ↓q_strip, ↓q_starts, ↓q_part, ↓q_max2, ↓q_min2, ↓q_in, ↓q_notin, ↓np_none, ↓np_imm, ↓np_own, ↓e_meth, ↓ob_1, ↓ob_2a, ↓ob_2b, ↓g_setFld, ↓g_insert, ↓ins_l, ↓sf_o, ↓pf_n, ↓pf_c, ↓fd_c, ↓o_fldo, ↓o_flde, ↓q_int, ↓q_notint, ↓q_idxw, ↓e_pure, ↓cm_n, ↓cm_c, ↓cm_0, ↓e_take, ↓tk_o, ↓tk_i, ↓ix_t4, at_0, at_S, set_0, set_S, lk_i, lk_o, lk_p, lk_l, re_nil, re_xi, re_xo, re_v, fl_i, fl_o, fl_p, fl_l, ar_nil, ar_x, ar_v, bk_nil, bk_x, bk_i, wr_S, wr_0f, wr_0o, wr_0p, bk_p, bk_l, as_0, as_S, as_vs, as_c, pu_c, tr_b, tr_i, tr_n, tr_l, tr_t, tr_s, bl_b, in_i, vl_i, vl_o, vl_p, vl_l, im_i, im_o, im_p, wi_nil, wi_c, sq_l, sq_f, sq_t, zp_ll, zp_tt, en_l, rg_1, rg_2, ch_s, fm_s, fm_i, st_0, st_1, st_2, st_3, st_4, ap_l, rv_o, rv_p, rv_i, rv_l, oK_nil, oK_nil0, oK_i, oK_p, oK_l, g_nx, g_nil, g_cons, g_asg, g_par, g_setIdx, g_append, g_ret, g_retV, g_retN, g_sife, g_for, g_ex, g_pass, g_brk, g_cont, e_var, e_cst, e_glo, e_op, e_call, e_tup, e_lst, e_ife, e_and, e_or, e_not, turn_eq, e_comp, e_fmt, e_imm, f_nil, f_cons, s_nil, s_v, s_e, s_n, t_nil, t_cons, b_tt, b_t, b_look, b_and, b_or, b_not, i_seq, i_range, i_chars, i_zip, i_enum, ix_l0, ix_l1, ix_l2, ix_l3, ix_l4, ix_t0, ix_t1, ix_t2, ix_t3, o_add, o_adds, o_sub, o_mul, o_fdiv, o_mod, o_pow, o_neg, o_eq, o_ne, o_lt, o_le, o_gt, o_ge, o_isN, o_notN, o_lenl, o_lent, o_lenf, o_lens, o_abs, o_toInt, o_isi, o_gcd, o_toList, o_addl, o_addt, q_slc11l, q_slc10l, q_slc01l, q_slc00l, q_slc11f, q_slc10f, q_slc01f, q_slc00f, q_slc11t, q_slc10t, q_slc01t, q_slc00t, q_toIntb, q_toListf, q_toListt, q_toTuplel, q_toTuplet, q_slcS11, q_slcS10, q_slcS01, q_rep, q_toStr, q_strip, q_starts, q_part, q_max2, q_min2, q_in, q_notin, o_idxl, o_idxf, o_idxt, o_idxs, o_all, q_any, q_sum, q_toIntS, q_inS, st_n, Option.map_some, ex_sb, ex_sl, ex_some, ex_some2, ex_rg, ex_true, bl_ex, tr_bl, tr_int, tr_non, tr_lst, tr_tup, eq_bl, eq_int, eq_str, eq_non, la_bl, la_int, la_non, beq_self_eq_true, ou_nil, ou_imm, ou_par, ou_parl, ow_nil, ow_x, ow_v, oi_o, oi_p, oi_i, oi_l, nodupB, wb_nil, wb_c, wpi_n, wpi_i, wpi_o, r_at0, r_atS, r_put0, r_putS, List.contains_nil, List.contains_cons, List.reverse_cons, List.reverse_nil, List.nil_append, List.cons_append, List.set_cons_zero, List.set_cons_succ, true_and, and_true, if_true, if_false, Bool.false_eq_true, Bool.not_true, Bool.not_false, Bool.and_true, Bool.true_and, Bool.and_false, Bool.false_and, Bool.or_false, Bool.false_or, Bool.or_true, Bool.true_or, List.any_cons, List.any_nil, hasTy, ownF, reduceCtorEq, forP_nil, np_none, np_imm, np_own, a_0, a_1, a_2, a_3, a_4, a_5, a_6, a_7, i_0, i_1, i_2, i_3, i_4, i_5, i_6, i_7, List.map_cons, List.map_nil, imms, List.length_cons, List.length_nil, drawE, pickE, lowE, plusE, timesE, textE, readE, t_whole, t_isfr, isspE, t_common, e_meth, ob_1, ob_2a, ob_2b, g_setFld, g_insert, ins_l, sf_o, pf_n, pf_c, fd_c, o_fldo, o_flde, q_int, q_notint, q_idxw, e_pure, cm_n, cm_c, cm_0, e_take, tk_o, tk_i, ix_t4, Nat.reduceEqDiff, eq_self, flatD, fT0, fT1, fT2, fT3, fT4, bT0, bT1, bT2, *]))
local macro_rules | `(tactic| walk_at "c") => `(tactic| repeat (refine And.intro (by first | decide +kernel | omega | (simp only [line]; omega)) ?_))
local macro_rules | `(tactic| walk_at "s") => `(tactic| ((refine cutS fun Nx hNx => ?_); walk_at "v"))
local macro_rules | `(tactic| walk_at "n") => `(tactic| ((refine NxH.out (by assumption) _ ?_); (rw [g_nx]); (refine cutS fun Nx hNx => ?_); walk_at "v"))
local macro_rules | `(tactic| walk_at "m") => `(tactic| ((refine NxH.out (by assumption) _ ?_); walk_at "v"))
local macro_rules | `(tactic| walk_at "a") => `(tactic| ((refine cutA fun Nx hNx => ?_); walk_at "v"))
/-! ### _law_bag -/
def bagT : Tr := fun as Q _ => ∃ ns : List Int, as = [(.imm, .frz (ns.map D.int))] ∧ ns.length ≤ 63 ∧ ∀ bag, Bag bag → Q (.own, bag) as
theorem bag_ok (G : Glob) : Ok G 1 1 b__law_bag bagT := by
  rintro as Q X ⟨ns, rfl, hl, hQ⟩
  rw [run_eq]
  refine ⟨rfl, ?_⟩
  show wpSs G b__law_bag [some (.imm, .frz (ns.map D.int)), none] _
  have e : cut (ns.map D.int) none (some 63) = ns.map D.int := by
    have e2 : sIx (ns.map D.int).length (ns.map D.int).length (some 63) = (ns.map D.int).length := by
      show (if (63 : Int) < 0 then ((63 : Int) + ((ns.map D.int).length : Int)).toNat else min (63 : Int).toNat (ns.map D.int).length) = _
      rw [if_neg (by decide), List.length_map]
      have : (63 : Int).toNat = 63 := rfl
      omega
    show List.take (sIx (ns.map D.int).length (ns.map D.int).length (some 63) - 0) (List.drop 0 _) = _
    rw [e2, Nat.sub_zero, List.drop_zero, List.take_length]
  simp only [b__law_bag]
  walk_at "v"
  refine ⟨.inr (.inl (by decide)), ?_⟩
  refine hQ _ ⟨ns, 0, 0, _, 0, rfl, by omega, by omega, by omega, ?_, ?_, by omega⟩ <;> rw [List.length_map] <;> omega
/-! ### small fractions -/
def rSmall : List D → D → Prop := fun _ r => ∃ x : Rat, r = fr x ∧ Sm 21 x
theorem small_ok (G : Glob) (h5 : G.fn 5 = drawT) (h10 : G.fn 10 = fnT rLow) (h11 : G.fn 11 = pickT) : Ok G 1 0 b__law_small (bT (fun ds => ds = []) rSmall) := by
  refine bT_ok ?_
  rintro bag ds hb rfl Q X hQ
  rw [run_eq]
  refine ⟨rfl, ?_⟩
  show wpSs G b__law_small [some (.par, bag)] _
  simp only [b__law_small]
  walk_at "v"
  refine ⟨by decide, by decide, fun p bag1 hb1 p0 p1 => ?_⟩
  walk_at "v"
  refine ⟨by simp, by decide, fun d bag2 hd hb2 => ?_⟩
  obtain ⟨q, rfl, q0, q1⟩ := mem_int 1 3 hd rfl
  walk_at "v"
  exact ⟨by omega, log_small (k := 3) (by decide) (by omega) (by decide), hQ _ _ ⟨_, rfl, sm_div (by omega) (by omega) (by omega)⟩ hb2⟩
/-! ### drawn values -/
theorem fraction_draw (G : Glob) (h5 : G.fn 5 = drawT) (h10 : G.fn 10 = fnT rLow) (h11 : G.fn 11 = pickT) : Ok G 1 2 b__law_fraction (bT (fun ds => ds = []) rSmall) := by
  refine bT_ok ?_
  rintro bag ds hb rfl Q X hQ
  rw [run_eq]
  refine ⟨rfl, ?_⟩
  show wpSs G b__law_fraction [some (.par, bag), none, none] _
  simp only [b__law_fraction]
  walk_at "v"
  refine ⟨by simp, by decide, fun sz bag1 hd hb1 => ?_⟩
  obtain ⟨s, rfl, s0, s1⟩ := mem_int 1 999999 hd rfl
  walk_at "v"
  refine ⟨.inr (.inl (by decide)), by omega, by omega, fun t bag2 hb2 t0 t1 => ?_⟩
  walk_at "v"
  refine ⟨by simp, by decide, fun u bag3 hu hb3 => ?_⟩
  have hu' : ∃ q, u = .int q ∧ 1 ≤ q ∧ q ≤ 999999 := by
    simp only [List.mem_cons, List.not_mem_nil, or_false] at hu
    rcases hu with rfl | rfl | rfl | rfl | rfl | rfl <;> exact ⟨_, rfl, by omega, by omega⟩
  obtain ⟨q, rfl, q0, q1⟩ := hu'
  walk_at "v"
  refine ⟨by omega, by omega, fun r bag4 hb4 r0 r1 => ?_⟩
  walk_at "v"
  exact ⟨by omega, log_small (k := 21) (by decide) (by omega) (by decide), hQ _ _ ⟨_, rfl, sm_div (by omega) (by omega) (by omega)⟩ hb4⟩
/-- plain data: texts are short -/
def plB (d : D) : Bool := lay 5 d && (match d with | .str z => decide (z.length ≤ 640) | _ => true)
def Pl (d : D) : Prop := plB d = true
theorem pl_mem {d : D} {l : List D} (h : d ∈ l) (c : l.all plB = true) : Pl d := List.all_eq_true.mp c d h
theorem Pl.lay {d : D} (h : Pl d) : lay 5 d = true := (Bool.and_eq_true_iff.mp h).1
theorem odd_ok (G : Glob) (h11 : G.fn 11 = pickT) (h12 : G.fn 12 = bT (fun ds => ds = []) rSmall) : Ok G 1 2 b__law_odd_fraction (bT (fun ds => ds = []) fun _ r => Pl r) := by
  refine bT_ok ?_
  rintro bag ds hb rfl Q X hQ
  rw [run_eq]
  refine ⟨rfl, ?_⟩
  show wpSs G b__law_odd_fraction [some (.par, bag), none, none] _
  simp only [b__law_odd_fraction]
  walk_at "v"
  rintro _ bag1 ⟨x, rfl, hx⟩ hb1
  simp only [fr]
  walk_at "v"
  refine ⟨by decide, by simp, by decide, fun d bag2 hd hb2 => ?_⟩
  walk_at "v"
  exact hQ _ _ (pl_mem hd (by kernel_rfl)) hb2
theorem oddspot_ok (G : Glob) (h11 : G.fn 11 = pickT) (h12 : G.fn 12 = bT (fun ds => ds = []) rSmall) (h13 : G.fn 13 = bT (fun ds => ds = []) fun _ r => Pl r) : Ok G 1 3 b__law_odd_spot (bT (fun ds => ds = []) fun _ r => lay 7 r = true) := by
  refine bT_ok ?_
  rintro bag ds hb rfl Q X hQ
  rw [run_eq]
  refine ⟨rfl, ?_⟩
  show wpSs G b__law_odd_spot [some (.par, bag), none, none, none] _
  simp only [b__law_odd_spot]
  walk_at "v"
  rintro _ bag1 ⟨x, rfl, hx⟩ hb1
  walk_at "v"
  rintro _ bag2 ⟨y, rfl, hy⟩ hb2
  walk_at "v"
  intro u bag3 hu hb3
  walk_at "v"
  intro v bag4 hv hb4
  walk_at "v"
  refine ⟨by decide, by simp, by decide, fun d bag5 hd hb5 => ?_⟩
  walk_at "v"
  refine hQ _ _ ?_ hb5
  have lx : ∀ n, lay (n + 1) (fr x) = true := fun n => by cases n <;> rfl
  have ly : ∀ n, lay (n + 1) (fr y) = true := fun n => by cases n <;> rfl
  have lu : lay 6 u = true := lay_up 5 u hu.lay
  have lv : lay 6 v = true := lay_up 5 v hv.lay
  have key : ∀ e ∈ ([D.non, .bl true, .int 3, .str "0 0", .tup [], fr x, .tup [.int 1, .int 2], .lst [fr x, fr y], .tup [fr x], .tup [fr x, fr y, fr x], .tup [.tup [fr x, fr y]], .tup [fr x, .lst [.int 1, .int 1]], .tup [.lst [.int 0, .int 1], fr y], .tup [.str "0", .str "1"], .tup [fr x, .non]] ++ [.tup [fr x, u], .tup [v, fr y], .tup [.tup [.bl true, .int 1], .tup [.int 0, .int 1]], .tup [.tup [.int 0, .int 1], .tup [.int 1, .bl true]], .lst [], .lst [fr x], .tup [.tup [fr x, fr y], .tup [fr y, fr x]]] : List D), lay 7 e = true := by
    intro e he
    simp only [List.mem_append, List.mem_cons, List.not_mem_nil, or_false] at he
    rcases he with (rfl | rfl | rfl | rfl | rfl | rfl | rfl | rfl | rfl | rfl | rfl | rfl | rfl | rfl | rfl) | (rfl | rfl | rfl | rfl | rfl | rfl | rfl) <;> first | (show (List.all [fr x, u] (lay 6)) = true; simp [lx, lu]; done) | (show (List.all [v, fr y] (lay 6)) = true; simp [ly, lv]; done) | kernel_rfl
  exact key d hd
/-! texts -/
def okN (n : Nat) (z : Str) : Prop := z.cps.all (· < 0x110000) = true ∧ z.length ≤ n
theorem okN.mono {n m : Nat} {z : Str} (h : okN n z) (l : n ≤ m) : okN m z := ⟨h.1, Nat.le_trans h.2 l⟩
theorem all_iff {z : Str} : z.cps.all (· < 0x110000) = true ↔ ∀ c ∈ z.cps.toList, c < 0x110000 := by
  rw [Array.all_eq_true_iff_forall_mem]
  simp
theorem okN_app {n m : Nat} {x y : Str} (h : okN n x) (k : okN m y) : okN (n + m) (x ++ y) := by
  refine ⟨?_, by rw [app_len]; have := h.2; have := k.2; omega⟩
  show (x.cps ++ y.cps).all _ = true
  rw [Array.all_append, h.1, k.1]
  rfl
theorem okN_cut {n : Nat} {x : Str} {lo hi : Option Int} (h : okN n x) : okN n (cutT x lo hi) := by
  have e : (cutT x lo hi).cps.toList = cut x.cps.toList lo hi := rfl
  have sub : ∀ c ∈ cut x.cps.toList lo hi, c ∈ x.cps.toList := fun c hc => List.mem_of_mem_drop (List.mem_of_mem_take hc)
  refine ⟨all_iff.mpr fun c hc => all_iff.mp h.1 c (sub c (e ▸ hc)), ?_⟩
  have l1 : (cutT x lo hi).length = (cut x.cps.toList lo hi).length := by
    rw [← e]
    exact (Array.length_toList).symm
  have l2 : x.length = x.cps.toList.length := (Array.length_toList).symm
  rw [l1]
  unfold cut
  rw [List.length_take, List.length_drop]
  have := h.2
  omega
theorem okN.lay {n m : Nat} {z : Str} (h : okN n z) : lay m (.str z) = true := by
  cases m <;> exact h.1
theorem okN.s {n : Nat} {z : Str} (h : okN n z) (l : n ≤ 640) : okS z := ⟨h.1, Nat.le_trans h.2 l⟩
theorem bent_ok (G : Glob) (h5 : G.fn 5 = drawT) (h11 : G.fn 11 = pickT) : Ok G 2 2 b__law_bent (bT (fun ds => ∃ z, ds = [.str z] ∧ okN 300 z) fun ds r => ∀ n z, ds = [.str z] → okN n z → ∃ y, r = .str y ∧ okN (n + n + 2) y) := by
  refine bT_ok ?_
  rintro bag ds hb ⟨z, rfl, hz⟩ Q X hQ
  rw [run_eq]
  refine ⟨rfl, ?_⟩
  show wpSs G b__law_bent [some (.par, bag), some (.imm, .str z), none, none] _
  have hz2 := hz.2
  simp only [b__law_bent]
  walk_at "v"
  refine ⟨by simp only [line]; omega, by omega, by omega, fun k bag1 hb1 k0 k1 => ?_⟩
  walk_at "v"
  refine ⟨by simp, by decide, fun p bag2 hp hb2 => ?_⟩
  have hp' : ∃ y, p = .str y ∧ okN 2 y := by
    have z := List.all_eq_true.mp (show (List.all [D.str "", .str "-", .str "0", .str "/", .str " ", .str "+", .str "1", .str "7", .str "/2", .str "a", .str "\n", .str ".", .str "_", .str "00", .str "/1"] fun e => match e with | .str y => y.cps.all (· < 0x110000) && decide (y.length ≤ 2) | _ => false) = true by kernel_rfl) p hp
    cases p <;> first | (cases z; done) | skip
    rename_i y
    simp only [Bool.and_eq_true, decide_eq_true_eq] at z
    exact ⟨y, rfl, z⟩
  obtain ⟨y, rfl, hy⟩ := hp'
  have c1 := okN_cut (lo := none) (hi := some k) hz
  have a1 := okN_app c1 hy
  walk_at "v"
  refine ⟨by simp only [line]; omega, by have := a1.2; have := c1.2; have := hy.2; simp only [line]; omega, by decide, by decide, fun d bag3 hb3 d0 d1 => ?_⟩
  have c2 := okN_cut (lo := some (k + d)) (hi := none) hz
  walk_at "v"
  refine ⟨by simp only [line]; omega, by have := a1.2; have := c2.2; simp only [line]; omega, ?_⟩
  refine hQ _ _ ?_ hb3
  intro n z' e hn
  cases e
  refine ⟨_, rfl, ?_⟩
  exact (okN_app (okN_app (okN_cut hn) hy) (okN_cut hn)).mono (by omega)
theorem written_ok (G : Glob) (h11 : G.fn 11 = pickT) : Ok G 1 2 b__law_written (bT (fun ds => ds = []) fun _ r => Pl r) := by
  refine bT_ok ?_
  rintro bag ds hb rfl Q X hQ
  rw [run_eq]
  refine ⟨rfl, ?_⟩
  show wpSs G b__law_written [some (.par, bag), none, none] _
  simp only [b__law_written]
  walk_at "v"
  walk_at "c"
  intro d bag3 hd hb3
  walk_at "v"
  exact hQ _ _ (pl_mem hd (by kernel_rfl)) hb3
/-! ### _law_same -/
def sameT (n : Nat) : Tr := fT (fun ds => ∃ d, ds = [d, d] ∧ lay n d = true ∧ szB n d = true) fun _ => .bl true
theorem zipD_self : ∀ xs : List D, zipD xs xs = xs.map fun x => .tup [x, x]
  | [] => rfl
  | x :: xs => by
    show D.tup [x, x] :: zipD xs xs = _
    rw [zipD_self xs]
    rfl
theorem eqB (b : Bool) : (b == b) = true := by simp
theorem lay_le {n m : Nat} {d : D} (h : lay n d = true) (l : n ≤ m) : lay m d = true := by
  induction l with
  | refl => exact h
  | step _ ih => exact lay_up _ d ih
theorem same_ok (G : Glob) (n : Nat) (hn : n ≤ 50) (h6 : ∀ m, n = m + 1 → G.fn 6 = sameT m) : Ok G 2 2 b__law_same (sameT n) := by
  refine fT_ok ?_
  rintro ds ⟨d, rfl, hl, hz⟩ Q X hQ
  rw [run_eq]
  refine ⟨rfl, ?_⟩
  show wpSs G b__law_same [some (.imm, d), some (.imm, d), none, none] _
  have hl60 := lay_le (m := 60) hl (by omega)
  have hq := hQ _ rfl
  cases d with
  | non =>
    simp only [b__law_same]
    walk_at "v"
    exact hq
  | bl b =>
    simp only [b__law_same]
    walk_at "v"
    exact hq
  | int i =>
    simp only [b__law_same]
    walk_at "v"
    exact hq
  | str z =>
    simp only [b__law_same]
    walk_at "v"
    exact hq
  | tup xs =>
    cases n with
    | zero => simp [lay] at hl
    | succ m =>
      have h6 := h6 m rfl
      simp only [szB, Bool.and_eq_true, decide_eq_true_eq] at hz
      have hla : ∀ x ∈ xs, lay m x = true := by simpa [lay] using hl
      have hsz : ∀ x ∈ xs, szB m x = true := by simpa using hz.2
      simp only [b__law_same]
      walk_at "v"
      rw [zipD_self]
      refine ⟨by rw [List.length_map]; simp only [line]; omega, ?_⟩
      refine forP_map (fun _ => .bl true) [] (fun d hd acc K hK => ?_) ?_
      · obtain ⟨x, hx, rfl⟩ := List.mem_map.mp hd
        have hs : ∀ (Q' : Val → List Val → Prop) X', Q' (.imm, .bl true) [(.imm, x), (.imm, x)] → sameT m [(.imm, x), (.imm, x)] Q' X' := fun Q' X' q => ⟨[x, x], rfl, ⟨x, rfl, hla x hx, hsz x hx⟩, q⟩
        walk_at "v"
      · have e := Ev.bools_map (β := D) (xs.map fun x => D.tup [x, x]) (fun _ => true)
        have e2 : ((xs.map fun x => D.tup [x, x]).map fun _ => true).all id = true := by simp
        walk_at "v"
        exact hq
  | lst xs =>
    cases n with
    | zero => simp [lay] at hl
    | succ m =>
      have h6 := h6 m rfl
      simp only [szB, Bool.and_eq_true, decide_eq_true_eq] at hz
      have hla : ∀ x ∈ xs, lay m x = true := by simpa [lay] using hl
      have hsz : ∀ x ∈ xs, szB m x = true := by simpa using hz.2
      simp only [b__law_same]
      walk_at "v"
      rw [zipD_self]
      refine ⟨by rw [List.length_map]; simp only [line]; omega, ?_⟩
      refine forP_map (fun _ => .bl true) [] (fun d hd acc K hK => ?_) ?_
      · obtain ⟨x, hx, rfl⟩ := List.mem_map.mp hd
        have hs : ∀ (Q' : Val → List Val → Prop) X', Q' (.imm, .bl true) [(.imm, x), (.imm, x)] → sameT m [(.imm, x), (.imm, x)] Q' X' := fun Q' X' q => ⟨[x, x], rfl, ⟨x, rfl, hla x hx, hsz x hx⟩, q⟩
        walk_at "v"
      · have e := Ev.bools_map (β := D) (xs.map fun x => D.tup [x, x]) (fun _ => true)
        have e2 : ((xs.map fun x => D.tup [x, x]).map fun _ => true).all id = true := by simp
        walk_at "v"
        exact hq
  | frz _ => cases n <;> simp [lay] at hl
  | dic _ => cases n <;> simp [lay] at hl
  | dicw _ => cases n <;> simp [lay] at hl
  | obj _ _ => cases n <;> simp [lay] at hl
  | exc _ _ _ => cases n <;> simp [lay] at hl
/-! ### a fraction's text, read back -/
theorem numL_head : ∀ n : Nat, 0 < n → ∀ c r, TL.numL n = c :: r → c ≠ 48 := by
  intro n
  induction n using Nat.strongRecOn with
  | _ n ih =>
    intro h c r e
    by_cases l : n < 10
    · rw [TL.numL_lt l] at e
      injection e with e1 _
      omega
    · rw [TL.numL_step (by omega)] at e
      cases q : TL.numL (n / 10) with
      | nil => exact (TL.numL_ne _ q).elim
      | cons a t =>
        rw [q] at e
        injection e with e1 _
        rw [← e1]
        exact ih (n / 10) (by omega) (by omega) a t q
theorem figL_num (n : Nat) : figL (TL.numL n) = true := by
  have hd : ∀ c ∈ TL.numL n, dig c = true := fun c hc => by
    have := TL.numL_digits n c hc
    unfold dig
    simp only [Bool.and_eq_true, decide_eq_true_eq]
    omega
  cases q : TL.numL n with
  | nil => exact (TL.numL_ne n q).elim
  | cons c r =>
    rw [figL_cons]
    rw [q] at hd
    have h1 : dig c = true := hd c (List.mem_cons_self ..)
    have h2 : r.all dig = true := List.all_eq_true.mpr fun x hx => hd x (List.mem_cons_of_mem _ hx)
    rw [h1, h2]
    by_cases l : n < 10
    · rw [TL.numL_lt l] at q
      injection q with _ q2
      rw [← q2]
      simp
    · have := numL_head n (by omega) c r q
      simp [this]
theorem figO_num (n : Nat) : figO (TL.numL n) = some (n : Int) := by
  unfold figO
  rw [if_pos (figL_num n)]
  unfold valL
  rw [TL.numL_val]
theorem textI_nn (n : Nat) : (textI (n : Int)).cps.toList = TL.numL n := TL.tl_num n
theorem textI_neg {i : Int} (h : i < 0) : (textI i).cps.toList = 45 :: TL.numL i.natAbs := by
  have e : toString i = "-" ++ toString (0 - i) := PyProof.Rows.toString_neg h
  have e2 : (0 - i : Int) = ((i.natAbs : Nat) : Int) := by omega
  have e5 : TL.tl (Str.ofString (toString ((i.natAbs : Nat) : Int))) = TL.numL i.natAbs := TL.tl_num i.natAbs
  rw [TL.tl_ofString] at e5
  show TL.tl (Str.ofString (toString i)) = _
  rw [TL.tl_ofString, e, e2, String.toList_append, List.map_append, e5]
  rfl
theorem numO_text (i : Int) : numO (textI i).cps.toList = some i := by
  by_cases h : i < 0
  · rw [textI_neg h]
    unfold numO
    have hh : (45 :: TL.numL i.natAbs).head? = some 45 := rfl
    rw [if_pos hh]
    show minusO (figO (TL.numL i.natAbs)) = _
    rw [figO_num]
    have hz : ¬ ((i.natAbs : Nat) : Int) = 0 := by omega
    show (if ((i.natAbs : Nat) : Int) = 0 then none else some (-((i.natAbs : Nat) : Int))) = some i
    rw [if_neg hz]
    congr 1
    omega
  · obtain ⟨n, rfl⟩ : ∃ n : Nat, i = n := ⟨i.toNat, by omega⟩
    rw [textI_nn]
    unfold numO
    have : ¬ (TL.numL n).head? = some 45 := fun z => by
      cases q : TL.numL n with
      | nil => rw [q] at z; cases z
      | cons c r =>
        rw [q] at z
        injection z with z
        have := TL.numL_digits n c (by rw [q]; exact List.mem_cons_self ..)
        omega
    rw [if_neg this]
    exact figO_num n
theorem no_slash (i : Int) : 47 ∉ (textI i).cps.toList := by
  by_cases h : i < 0
  · rw [textI_neg h]
    intro z
    rcases List.mem_cons.mp z with z | z
    · omega
    · exact TL.numL_free (.inl (by omega)) z
  · obtain ⟨n, rfl⟩ : ∃ n : Nat, i = n := ⟨i.toNat, by omega⟩
    rw [textI_nn]
    exact TL.numL_free (.inl (by omega))
theorem tl_slash : TL.tl ("/" : Str) = [47] := by decide +kernel
theorem read_text (x : Rat) : readS (textF x) = fr x := by
  unfold readS textF
  by_cases h : x.den = 1
  · rw [if_pos h]
    have e : textI x.num ++ ("" : Str) = textI x.num := Str.append_right_empty (by decide)
    rw [e, TL.partition_none tl_slash (no_slash x.num)]
    show (match numO (textI x.num).cps.toList with
      | none => D.non
      | some n => if Str.empty = ("" : Str) then D.tup [.int n, .int 1] else _) = _
    rw [numO_text]
    show (if Str.empty = ("" : Str) then D.tup [.int x.num, .int 1] else _) = _
    rw [if_pos (by decide)]
    unfold fr
    rw [h]
    rfl
  · rw [if_neg h, ← Str.append_assoc, TL.partition_app tl_slash (no_slash x.num)]
    show (match numO (textI x.num).cps.toList with
      | none => D.non
      | some n => if ("/" : Str) = ("" : Str) then D.tup [.int n, .int 1] else
        match figO (textI (x.den : Int)).cps.toList with
        | none => .non
        | some m => if 2 ≤ m ∧ Nat.gcd n.natAbs m.natAbs = 1 then .tup [.int n, .int m] else .non) = _
    rw [numO_text, textI_nn, figO_num]
    show (if ("/" : Str) = ("" : Str) then D.tup [.int x.num, .int 1] else if 2 ≤ (x.den : Int) ∧ Nat.gcd x.num.natAbs (x.den : Int).natAbs = 1 then D.tup [.int x.num, .int x.den] else .non) = _
    rw [if_neg (by decide), if_pos ⟨by have := x.den_nz; omega, by rw [Int.natAbs_natCast]; exact x.reduced⟩]
    rfl
/-! sizes -/
theorem sm_mul {k l : Nat} {x y : Rat} (h : Sm k x) (g : Sm l y) : Sm (k + l) (x * y) := by
  rw [← mul_eq x y]
  refine sm_div (Int.mul_ne_zero (by have := x.den_nz; omega) (by have := y.den_nz; omega)) ?_ ?_
  · rw [Int.natAbs_mul, Nat.pow_add]
    exact Nat.mul_lt_mul'' h.1 g.1
  · rw [Int.natAbs_mul, Nat.pow_add, Int.natAbs_natCast, Int.natAbs_natCast]
    exact Nat.mul_lt_mul'' h.2 g.2
theorem sm_add {k l : Nat} {x y : Rat} (h : Sm k x) (g : Sm l y) : Sm (k + l + 1) (x + y) := by
  rw [← add_eq x y]
  have a1 : x.num.natAbs * y.den < 2 ^ k * 2 ^ l := Nat.mul_lt_mul'' h.1 g.2
  have a2 : y.num.natAbs * x.den < 2 ^ l * 2 ^ k := Nat.mul_lt_mul'' g.1 h.2
  have a3 : x.den * y.den < 2 ^ k * 2 ^ l := Nat.mul_lt_mul'' h.2 g.2
  rw [Nat.mul_comm (2 ^ l)] at a2
  have e : 2 ^ (k + l + 1) = 2 ^ k * 2 ^ l + 2 ^ k * 2 ^ l := by rw [Nat.pow_succ, Nat.pow_add]; omega
  refine sm_div (Int.mul_ne_zero (by have := x.den_nz; omega) (by have := y.den_nz; omega)) ?_ ?_
  · have b := Int.natAbs_add_le (x.num * y.den) (y.num * x.den)
    rw [Int.natAbs_mul, Int.natAbs_mul, Int.natAbs_natCast, Int.natAbs_natCast] at b
    omega
  · rw [Int.natAbs_mul, Int.natAbs_natCast, Int.natAbs_natCast]
    omega
theorem sm_mono {k l : Nat} {x : Rat} (h : Sm k x) (le : k ≤ l) : Sm l x :=
  ⟨Nat.lt_of_lt_of_le h.1 (Nat.pow_le_pow_right (by decide) le), Nat.lt_of_lt_of_le h.2 (Nat.pow_le_pow_right (by decide) le)⟩
theorem sm_log {k n : Nat} {x : Rat} (h : Sm k x) (h0 : 0 < k) (l : k ≤ n) : x.num.natAbs.log2 < n ∧ x.den.log2 < n :=
  ⟨Nat.lt_of_lt_of_le (log_lt h0 h.1) l, Nat.lt_of_lt_of_le (log_lt h0 h.2) l⟩
theorem textI_ok (i : Int) {k : Nat} (hk : 0 < k) (h : i.natAbs < 2 ^ k) : okN (k + 1) (textI i) := by
  refine ⟨all_iff.mpr fun c hc => ?_, textI_len hk (log_lt hk h)⟩
  by_cases l : i < 0
  · rw [textI_neg l] at hc
    rcases List.mem_cons.mp hc with rfl | hc
    · decide
    · have := TL.numL_digits _ c hc
      omega
  · obtain ⟨n, rfl⟩ : ∃ n : Nat, i = n := ⟨i.toNat, by omega⟩
    rw [textI_nn] at hc
    have := TL.numL_digits _ c hc
    omega
theorem text_ok_n {x : Rat} {k : Nat} (hk : 0 < k) (h : Sm k x) : okN (k + 1 + (1 + (k + 1))) (textF x) := by
  unfold textF
  have h1 := textI_ok x.num hk h.1
  have h2 := textI_ok (x.den : Int) hk (by rw [Int.natAbs_natCast]; exact h.2)
  have h0 : okN 0 ("" : Str) := ⟨by decide +kernel, by decide⟩
  have hs : okN 1 ("/" : Str) := ⟨by decide +kernel, by decide⟩
  split
  · exact (okN_app h1 h0).mono (by omega)
  · exact okN_app h1 (okN_app hs h2)
end Lw
end Ev
set_option Elab.async false
set_option linter.all false
set_option autoImplicit false
set_option maxRecDepth 100000
set_option maxHeartbeats 1000000
namespace Ev
namespace Lw
open PySem PySem.Spec PyProof.Rows
def b_minus : Ss := (.cons (.ife (.and_ (.t (.op .eq (.e (.op .idx (.v 0 (.e (.cst (.int 1)) .nil))) (.e (.cst (.int 1)) .nil)))) (.t (.op .eq (.e (.op .idx (.v 1 (.e (.cst (.int 1)) .nil))) (.e (.cst (.int 1)) .nil))))) (.cons (.ret (.tup (.cons (.op .sub (.e (.op .idx (.v 0 (.e (.cst (.int 0)) .nil))) (.e (.op .idx (.v 1 (.e (.cst (.int 0)) .nil))) .nil))) (.cons (.cst (.int 1)) .nil)))) .nil) .nil) (.cons (.ret (.call 2 (.e (.op .sub (.e (.op .mul (.e (.op .idx (.v 0 (.e (.cst (.int 0)) .nil))) (.e (.op .idx (.v 1 (.e (.cst (.int 1)) .nil))) .nil))) (.e (.op .mul (.e (.op .idx (.v 1 (.e (.cst (.int 0)) .nil))) (.e (.op .idx (.v 0 (.e (.cst (.int 1)) .nil))) .nil))) .nil))) (.e (.op .mul (.e (.op .idx (.v 0 (.e (.cst (.int 1)) .nil))) (.e (.op .idx (.v 1 (.e (.cst (.int 1)) .nil))) .nil))) .nil)))) .nil))
def b_negative : Ss := (.cons (.ret (.tup (.cons (.op .neg (.e (.op .idx (.v 0 (.e (.cst (.int 0)) .nil))) .nil)) (.cons (.op .idx (.v 0 (.e (.cst (.int 1)) .nil))) .nil)))) .nil)
def b__applied : Ss := (.cons (.asg (.vs [2, 3]) (.var 1)) (.cons (.ret (.tup (.cons (.call 28 (.e (.call 29 (.e (.op (.fld 3) (.v 0 .nil)) (.v 2 .nil))) (.e (.call 29 (.e (.op (.fld 2) (.v 0 .nil)) (.v 3 .nil))) .nil))) (.cons (.call 28 (.e (.call 29 (.e (.op (.fld 1) (.v 0 .nil)) (.v 2 .nil))) (.e (.call 29 (.e (.op (.fld 0) (.v 0 .nil)) (.v 3 .nil))) .nil))) .nil)))) .nil))
def b_is_kind : Ss := (.cons (.ret (.and_ (.op (.isi [.str]) (.v 0 .nil)) (.op .in_ (.v 0 (.e (.glo 1) .nil))))) .nil)
def b_is_free_kind : Ss := (.cons (.ret (.op .in_ (.v 0 (.e (.glo 2) .nil)))) .nil)
def b_own_count : Ss := (.cons (.ret (.op .idx (.e (.glo 3) (.v 0 .nil)))) .nil)
def b_table_of : Ss := (.cons (.asg (.v 2) (.op .idx (.v 1 (.e (.cst (.int 0)) .nil)))) (.cons (.ife (.t (.op .eq (.v 0 (.e (.cst (.str "slanted")) .nil)))) (.cons (.ret (.call 34 (.v 2 (.e (.op .idx (.v 1 (.e (.cst (.int 1)) .nil))) (.e (.op .idx (.v 1 (.e (.cst (.int 2)) .nil))) (.e (.op .idx (.v 1 (.e (.cst (.int 3)) .nil))) .nil)))))) .nil) .nil) (.cons (.ife (.t (.op .eq (.v 0 (.e (.cst (.str "turned")) .nil)))) (.cons (.ret (.call 34 (.v 2 (.e (.call 35 (.e (.op .idx (.v 1 (.e (.cst (.int 1)) .nil))) .nil)) (.e (.op .idx (.v 1 (.e (.cst (.int 1)) .nil))) (.v 2 .nil)))))) .nil) .nil) (.cons (.ife (.t (.op .eq (.v 0 (.e (.cst (.str "mirrored")) .nil)))) (.cons (.ret (.call 34 (.v 2 (.e (.op .idx (.v 1 (.e (.cst (.int 1)) .nil))) (.e (.op .idx (.v 1 (.e (.cst (.int 1)) .nil))) (.e (.call 35 (.v 2 .nil)) .nil)))))) .nil) .nil) (.cons (.ife (.t (.op .eq (.v 0 (.e (.cst (.str "stretched")) .nil)))) (.cons (.ret (.call 34 (.v 2 (.e (.glo 4) (.e (.glo 4) (.e (.op .idx (.v 1 (.e (.cst (.int 1)) .nil))) .nil)))))) .nil) .nil) (.cons (.ret (.call 34 (.v 2 (.e (.glo 4) (.e (.glo 4) (.v 2 .nil)))))) .nil))))))
def b_own_numbers : Ss := (.cons (.asg (.vs [2, 3, 4, 5]) (.meth 38 [0] (.var 1) .nil)) (.cons (.ife (.t (.op .eq (.v 0 (.e (.cst (.str "slanted")) .nil)))) (.cons (.asg (.v 6) (.lst (.cons (.var 2) (.cons (.var 3) (.cons (.var 4) (.cons (.var 5) .nil)))))) .nil) (.cons (.ife (.t (.op .eq (.v 0 (.e (.cst (.str "stretched")) .nil)))) (.cons (.asg (.v 6) (.lst (.cons (.var 2) (.cons (.var 5) .nil)))) .nil) (.cons (.ife (.or_ (.t (.op .eq (.v 0 (.e (.cst (.str "turned")) .nil)))) (.t (.op .eq (.v 0 (.e (.cst (.str "mirrored")) .nil))))) (.cons (.asg (.v 6) (.lst (.cons (.var 2) (.cons (.var 4) .nil)))) .nil) (.cons (.asg (.v 6) (.lst (.cons (.var 2) .nil))) .nil)) .nil)) .nil)) (.cons (.ret (.ife (.t (.call 36 (.e (.call 37 (.v 0 (.v 6 .nil))) (.v 1 .nil)))) (.take 6) (.cst .non))) .nil)))
def b_fits : Ss := (.cons (.ret (.op .notN (.e (.call 39 (.v 0 (.v 1 .nil))) .nil))) .nil)
def b__law_sum : Ss := (.cons (.ret (.call 10 (.e (.op .add (.e (.op .mul (.e (.op .idx (.v 0 (.e (.cst (.int 0)) .nil))) (.e (.op .idx (.v 1 (.e (.cst (.int 1)) .nil))) .nil))) (.e (.op .mul (.e (.op .idx (.v 1 (.e (.cst (.int 0)) .nil))) (.e (.op .idx (.v 0 (.e (.cst (.int 1)) .nil))) .nil))) .nil))) (.e (.op .mul (.e (.op .idx (.v 0 (.e (.cst (.int 1)) .nil))) (.e (.op .idx (.v 1 (.e (.cst (.int 1)) .nil))) .nil))) .nil)))) .nil)
def b__law_product : Ss := (.cons (.ret (.call 10 (.e (.op .mul (.e (.op .idx (.v 0 (.e (.cst (.int 0)) .nil))) (.e (.op .idx (.v 1 (.e (.cst (.int 0)) .nil))) .nil))) (.e (.op .mul (.e (.op .idx (.v 0 (.e (.cst (.int 1)) .nil))) (.e (.op .idx (.v 1 (.e (.cst (.int 1)) .nil))) .nil))) .nil)))) .nil)
def b__law_long : Ss := (.cons (.ret (.tup (.cons (.call 40 (.e (.op .idx (.v 0 (.e (.cst (.int 0)) .nil))) (.v 1 .nil))) (.cons (.call 40 (.e (.op .idx (.v 0 (.e (.cst (.int 1)) .nil))) (.v 1 .nil))) .nil)))) .nil)
def b__law_near : Ss := (.cons (.ret (.tup (.cons (.call 12 (.v 0 .nil)) (.cons (.call 12 (.v 0 .nil)) .nil)))) .nil)
def b__law_table : Ss := (.cons (.asg (.v 1) (.call 5 (.v 0 (.e (.cst (.int 8)) .nil)))) (.cons (.ife (.t (.op .eq (.v 1 (.e (.cst (.int 0)) .nil)))) (.cons (.ret (.tup (.cons (.tup (.cons (.cst (.int 0)) (.cons (.cst (.int 1)) .nil))) (.cons (.tup (.cons (.cst (.int 0)) (.cons (.cst (.int 1)) .nil))) (.cons (.tup (.cons (.cst (.int 0)) (.cons (.cst (.int 1)) .nil))) (.cons (.tup (.cons (.cst (.int 0)) (.cons (.cst (.int 1)) .nil))) .nil)))))) .nil) .nil) (.cons (.ife (.t (.op .lt (.v 1 (.e (.cst (.int 3)) .nil)))) (.cons (.par [3, 4] (.e (.call 42 (.v 0 .nil)) (.e (.call 12 (.v 0 .nil)) .nil))) (.cons (.asg (.v 2) (.call 41 (.v 3 (.v 4 .nil)))) (.cons (.ret (.ife (.t (.op .eq (.v 1 (.e (.cst (.int 1)) .nil)))) (.tup (.cons (.op .idx (.v 3 (.e (.cst (.int 0)) .nil))) (.cons (.op .idx (.v 3 (.e (.cst (.int 1)) .nil))) (.cons (.op .idx (.v 2 (.e (.cst (.int 0)) .nil))) (.cons (.op .idx (.v 2 (.e (.cst (.int 1)) .nil))) .nil))))) (.tup (.cons (.op .idx (.v 2 (.e (.cst (.int 0)) .nil))) (.cons (.op .idx (.v 3 (.e (.cst (.int 0)) .nil))) (.cons (.op .idx (.v 2 (.e (.cst (.int 1)) .nil))) (.cons (.op .idx (.v 3 (.e (.cst (.int 1)) .nil))) .nil))))))) .nil))) .nil) (.cons (.ife (.t (.op .lt (.v 1 (.e (.cst (.int 5)) .nil)))) (.cons (.ret (.tup (.cons (.call 32 (.v 0 .nil)) (.cons (.call 32 (.v 0 .nil)) (.cons (.call 32 (.v 0 .nil)) (.cons (.call 32 (.v 0 .nil)) .nil)))))) .nil) .nil) (.cons (.ret (.tup (.cons (.call 12 (.v 0 .nil)) (.cons (.call 12 (.v 0 .nil)) (.cons (.call 12 (.v 0 .nil)) (.cons (.call 12 (.v 0 .nil)) .nil)))))) .nil)))))
def b__law_words : Ss := (.cons (.ret (.imm (.lst (.cons (.cst (.str "slanted")) (.cons (.cst (.str "turned")) (.cons (.cst (.str "mirrored")) (.cons (.cst (.str "stretched")) (.cons (.cst (.str "sized")) (.cons (.cst (.str "even")) .nil))))))))) .nil)
def b__law_many : Ss := (.cons (.ret (.ife (.t (.op .eq (.v 0 (.e (.cst (.str "slanted")) .nil)))) (.cst (.int 4)) (.ife (.t (.op .in_ (.v 0 (.e (.tup (.cons (.cst (.str "sized")) (.cons (.cst (.str "even")) .nil))) .nil)))) (.cst (.int 1)) (.cst (.int 2))))) .nil)
def b__law_filled : Ss := (.cons (.par [2, 3, 4] (.e (.op .idx (.v 1 (.e (.cst (.int 0)) .nil))) (.e (.op .idx (.v 1 (.e (.op .neg (.e (.cst (.int 1)) .nil)) .nil))) (.e (.tup (.cons (.cst (.int 0)) (.cons (.cst (.int 1)) .nil))) .nil)))) (.cons (.ife (.t (.op .eq (.v 0 (.e (.cst (.str "slanted")) .nil)))) (.cons (.ret (.tup (.cons (.op .idx (.v 1 (.e (.cst (.int 0)) .nil))) (.cons (.op .idx (.v 1 (.e (.cst (.int 1)) .nil))) (.cons (.op .idx (.v 1 (.e (.cst (.int 2)) .nil))) (.cons (.op .idx (.v 1 (.e (.cst (.int 3)) .nil))) .nil)))))) .nil) .nil) (.cons (.ife (.t (.op .eq (.v 0 (.e (.cst (.str "turned")) .nil)))) (.cons (.ret (.tup (.cons (.var 2) (.cons (.call 40 (.v 3 (.e (.tup (.cons (.op .neg (.e (.cst (.int 1)) .nil)) (.cons (.cst (.int 1)) .nil))) .nil))) (.cons (.var 3) (.cons (.var 2) .nil)))))) .nil) .nil) (.cons (.ife (.t (.op .eq (.v 0 (.e (.cst (.str "mirrored")) .nil)))) (.cons (.ret (.tup (.cons (.var 2) (.cons (.var 3) (.cons (.var 3) (.cons (.call 40 (.v 2 (.e (.tup (.cons (.op .neg (.e (.cst (.int 1)) .nil)) (.cons (.cst (.int 1)) .nil))) .nil))) .nil)))))) .nil) .nil) (.cons (.ret (.tup (.cons (.var 2) (.cons (.var 4) (.cons (.var 4) (.cons (.var 3) .nil)))))) .nil)))))
def b__law_read_off : Ss := (.cons (.asg (.v 2) (.imm (.ife (.t (.op .eq (.v 0 (.e (.cst (.str "slanted")) .nil)))) (.op .toList (.v 1 .nil)) (.ife (.t (.op .in_ (.v 0 (.e (.tup (.cons (.cst (.str "turned")) (.cons (.cst (.str "mirrored")) .nil))) .nil)))) (.lst (.cons (.op .idx (.v 1 (.e (.cst (.int 0)) .nil))) (.cons (.op .idx (.v 1 (.e (.cst (.int 2)) .nil))) .nil))) (.lst (.cons (.op .idx (.v 1 (.e (.cst (.int 0)) .nil))) (.cons (.op .idx (.v 1 (.e (.cst (.int 3)) .nil))) .nil))))))) (.cons (.asg (.v 2) (.imm (.op (.slc false true) (.v 2 (.n (.call 44 (.v 0 .nil)) .nil))))) (.cons (.ret (.ife (.t (.op .eq (.e (.call 43 (.v 0 (.v 2 .nil))) (.v 1 .nil)))) (.var 2) (.cst .non))) .nil)))
def b__law_made : Ss := (.cons (.ret (.call 34 (.e (.op .idx (.v 0 (.e (.cst (.int 0)) .nil))) (.e (.op .idx (.v 0 (.e (.cst (.int 1)) .nil))) (.e (.op .idx (.v 0 (.e (.cst (.int 2)) .nil))) (.e (.op .idx (.v 0 (.e (.cst (.int 3)) .nil))) .nil)))))) .nil)
def b__law_bent_1 : Ss := (.cons (.par [3, 4] (.e (.call 5 (.v 0 (.e (.cst (.int 4)) .nil))) (.e (.call 12 (.v 0 .nil)) .nil))) (.cons (.asg (.v 2) (.call 11 (.v 0 (.e (.imm (.lst (.cons (.var 4) (.cons (.tup (.cons (.cst (.int 0)) (.cons (.cst (.int 1)) .nil))) (.cons (.tup (.cons (.cst (.int 1)) (.cons (.cst (.int 1)) .nil))) (.cons (.call 45 (.e (.op .idx (.v 1 (.v 3 .nil))) (.e (.tup (.cons (.cst (.int 1)) (.cons (.cst (.int 1)) .nil))) .nil))) (.cons (.call 40 (.e (.op .idx (.v 1 (.v 3 .nil))) (.e (.tup (.cons (.op .neg (.e (.cst (.int 1)) .nil)) (.cons (.cst (.int 1)) .nil))) .nil))) (.cons (.op .idx (.v 1 (.e (.op .sub (.e (.cst (.int 3)) (.v 3 .nil))) .nil))) (.cons (.op .idx (.v 1 (.e (.cst (.int 0)) .nil))) (.cons (.op .idx (.v 1 (.e (.cst (.int 1)) .nil))) .nil)))))))))) .nil)))) (.cons (.ret (.imm (.op .add (.e (.op .add (.e (.op (.slc false true) (.v 1 (.n (.var 3) .nil))) (.e (.tup (.cons (.var 2) .nil)) .nil))) (.e (.op (.slc true false) (.v 1 (.n (.op .add (.v 3 (.e (.cst (.int 1)) .nil))) .nil))) .nil))))) .nil)))
def b__law_words_so : Ss := (.cons (.asg (.v 1) (.call 53 .nil)) (.cons (.ife (.not_ (.t (.call 6 (.e (.glo 1) (.e (.op .toTuple (.v 1 .nil)) .nil))))) (.cons (.ret (.cst (.bl false))) .nil) .nil) (.cons (.asg (.v 2) (.comp [4] (.v 4) (.seq (.var 1)) .tt (.lst (.cons (.call 47 (.v 4 .nil)) (.cons (.call 46 (.v 4 .nil)) (.cons (.call 52 (.v 4 .nil)) (.cons (.call 51 (.v 4 .nil)) (.cons (.call 50 (.v 4 .nil)) (.cons (.call 49 (.v 4 .nil)) .nil))))))))) (.cons (.asg (.v 3) (.comp [5] (.v 5) (.range (.e (.cst (.int 6)) .nil)) .tt (.lst (.cons (.cst (.bl true)) (.cons (.cst (.bl true)) (.cons (.op .lt (.v 5 (.e (.cst (.int 3)) .nil))) (.cons (.op .lt (.v 5 (.e (.cst (.int 3)) .nil))) (.cons (.call 44 (.e (.op .idx (.v 1 (.v 5 .nil))) .nil)) (.cons (.call 44 (.e (.op .idx (.v 1 (.v 5 .nil))) .nil)) .nil))))))))) (.cons (.ife (.not_ (.t (.call 6 (.e (.var 2) (.e (.var 3) .nil))))) (.cons (.ret (.cst (.bl false))) .nil) .nil) (.cons (.asg (.v 4) (.call 11 (.v 0 (.v 1 .nil)))) (.cons (.asg (.v 5) (.call 5 (.v 0 (.e (.op .add (.e (.op .len (.v 4 .nil)) (.e (.cst (.int 1)) .nil))) .nil)))) (.cons (.asg (.v 6) (.op .add (.e (.op .add (.e (.op (.slcS false true) (.v 4 (.n (.var 5) .nil))) (.e (.call 11 (.v 0 (.e (.imm (.lst (.cons (.cst (.str "")) (.cons (.cst (.str "e")) (.cons (.cst (.str "s")) (.cons (.cst (.str " ")) (.cons (.cst (.str "d")) (.cons (.cst (.str "E")) (.cons (.cst (.str "n")) .nil))))))))) .nil))) .nil))) (.e (.op (.slcS true false) (.v 4 (.n (.op .add (.v 5 (.e (.call 5 (.v 0 (.e (.cst (.int 2)) .nil))) .nil))) .nil))) .nil)))) (.cons (.asg (.v 7) (.call 11 (.v 0 (.e (.imm (.lst (.cons (.cst .non) (.cons (.cst (.bl true)) (.cons (.cst (.int 0)) (.cons (.cst (.int 3)) (.cons (.cst (.str "")) (.cons (.cst (.str " ")) (.cons (.cst (.str "Even")) (.cons (.cst (.str "evens")) (.cons (.cst (.str "size")) (.cons (.cst (.str "free")) (.cons (.cst (.str "kind")) (.cons (.tup (.cons (.var 4) .nil)) (.cons (.lst (.cons (.var 4) .nil)) (.cons (.var 1) (.cons (.call 48 .nil) (.cons (.op .toTuple (.v 1 .nil)) (.cons (.cst (.str "even\n")) .nil))))))))))))))))))) .nil)))) (.cons (.ret (.call 6 (.e (.imm (.lst (.cons (.call 47 (.v 6 .nil)) (.cons (.call 46 (.v 7 .nil)) .nil)))) (.e (.imm (.lst (.cons (.op .in_ (.v 6 (.v 1 .nil))) (.cons (.cst (.bl false)) .nil)))) .nil)))) .nil))))))))))
def b__law_numbers_so : Ss := (.cons (.asg (.v 2) (.op .toList (.v 1 .nil))) (.cons (.par [5, 6] (.e (.call 37 (.v 0 (.v 2 .nil))) (.e (.call 56 (.e (.op .toTuple (.v 1 .nil)) (.v 0 .nil))) .nil))) (.cons (.asg (.v 3) (.call 43 (.v 0 (.v 1 .nil)))) (.cons (.ife (.or_ (.not_ (.t (.op (.isi [(.cls 0)]) (.v 5 .nil)))) (.or_ (.not_ (.t (.op (.isi [(.cls 0)]) (.v 6 .nil)))) (.not_ (.t (.pure (.call 6 (.e (.imm (.lst (.cons (.var 2) (.cons (.meth 38 [0] (.var 5) .nil) (.cons (.meth 38 [0] (.var 6) .nil) .nil))))) (.e (.imm (.lst (.cons (.op .toList (.v 1 .nil)) (.cons (.var 3) (.cons (.var 3) .nil))))) .nil)))))))) (.cons (.ret (.cst (.bl false))) .nil) .nil) (.cons (.append 2 (.tup (.cons (.cst (.int 5)) (.cons (.cst (.int 1)) .nil)))) (.cons (.setIdx 2 (.cst (.int 0)) (.tup (.cons (.cst (.int 9)) (.cons (.cst (.int 1)) .nil)))) (.cons (.asg (.v 4) (.call 39 (.v 0 (.v 5 .nil)))) (.cons (.ife (.not_ (.t (.pure (.call 6 (.e (.imm (.lst (.cons (.var 4) (.cons (.meth 38 [0] (.var 5) .nil) (.cons (.call 55 (.v 0 (.v 5 .nil))) .nil))))) (.e (.imm (.lst (.cons (.op .toList (.v 1 .nil)) (.cons (.var 3) (.cons (.cst (.bl true)) .nil))))) .nil)))))) (.cons (.ret (.cst (.bl false))) .nil) .nil) (.cons (.append 4 (.tup (.cons (.cst (.int 5)) (.cons (.cst (.int 1)) .nil)))) (.cons (.setIdx 4 (.cst (.int 0)) (.cst .non)) (.cons (.ret (.and_ (.call 6 (.e (.imm (.call 54 (.v 5 (.v 0 .nil)))) (.e (.imm (.op .toList (.v 1 .nil))) .nil))) (.call 36 (.e (.call 37 (.v 0 (.e (.imm (.call 39 (.v 0 (.v 6 .nil)))) .nil))) (.v 5 .nil))))) .nil)))))))))))
def b__law_judged_so : Ss := (.cons (.asg (.v 1) (.call 59 (.v 0 .nil))) (.cons (.for_ (.v 2) (.seq (.call 53 .nil)) (.cons (.asg (.v 3) (.call 58 (.v 2 (.v 0 .nil)))) (.cons (.asg (.v 4) (.imm (.lst (.cons (.call 55 (.v 2 (.v 1 .nil))) (.cons (.call 57 (.v 1 (.v 2 .nil))) (.cons (.call 39 (.v 2 (.v 1 .nil))) .nil)))))) (.cons (.ife (.not_ (.t (.call 6 (.v 4 (.e (.imm (.lst (.cons (.op .notN (.v 3 .nil)) (.cons (.op .notN (.v 3 .nil)) (.cons (.var 3) .nil))))) .nil))))) (.cons (.ret (.cst (.bl false))) .nil) .nil) .nil)))) (.cons (.ret (.cst (.bl true))) .nil)))
def b_law_1 : Ss := (.cons (.asg (.v 1) (.call 33 (.v 0 .nil))) (.cons (.ife (.or_ (.not_ (.t (.call 67 (.v 1 .nil)))) (.not_ (.t (.call 67 (.v 1 .nil))))) (.cons (.ret (.cst (.bl false))) .nil) .nil) (.cons (.for_ (.v 2) (.range (.e (.cst (.int 4)) .nil)) (.cons (.asg (.v 3) (.call 11 (.v 1 (.e (.call 53 .nil) .nil)))) (.cons (.asg (.v 4) (.comp [12] (.v 12) (.range (.e (.call 44 (.v 3 .nil)) .nil)) .tt (.call 11 (.v 1 (.e (.imm (.lst (.cons (.call 32 (.v 1 .nil)) (.cons (.call 12 (.v 1 .nil)) .nil)))) .nil))))) (.cons (.asg (.v 5) (.comp [12] (.v 12) (.range (.e (.call 44 (.v 3 .nil)) .nil)) .tt (.call 11 (.v 1 (.e (.imm (.lst (.cons (.call 12 (.v 1 .nil)) (.cons (.op .idx (.v 4 (.e (.cst (.int 0)) .nil))) (.cons (.tup (.cons (.cst (.int 0)) (.cons (.cst (.int 1)) .nil))) .nil))))) .nil))))) (.cons (.ife (.or_ (.not_ (.t (.call 66 (.v 3 (.e (.var 4) .nil))))) (.not_ (.t (.call 66 (.v 3 (.e (.var 5) .nil)))))) (.cons (.ret (.cst (.bl false))) .nil) .nil) (.cons (.par [9, 10, 11] (.e (.call 43 (.v 3 (.e (.var 4) .nil))) (.e (.call 43 (.v 3 (.e (.var 5) .nil))) (.e (.call 12 (.v 1 .nil)) .nil)))) (.cons (.asg (.v 6) (.imm (.lst (.cons (.var 9) (.cons (.var 10) (.cons (.call 25 (.v 1 (.v 9 .nil))) (.cons (.call 25 (.v 1 (.v 10 .nil))) (.cons (.call 25 (.v 1 (.e (.call 25 (.v 1 (.v 9 .nil))) .nil))) (.cons (.call 65 (.v 1 .nil)) .nil))))))))) (.cons (.ife (.not_ (.t (.op .all (.e (.comp [15] (.v 15) (.seq (.var 6)) .tt (.call 64 (.v 15 .nil))) .nil)))) (.cons (.ret (.cst (.bl false))) .nil) .nil) (.cons (.asg (.v 7) (.imm (.lst (.cons (.call 63 (.e (.call 59 (.v 9 .nil)) (.e (.call 59 (.v 10 .nil)) .nil))) (.cons (.call 62 (.e (.call 59 (.v 9 .nil)) (.e (.call 59 (.v 10 .nil)) .nil))) (.cons (.meth 61 [0] (.call 59 (.v 9 .nil)) (.v 11 .nil)) (.cons (.call 48 .nil) (.cons (.call 60 (.e (.call 59 (.v 10 .nil)) .nil)) .nil)))))))) (.cons (.ife (.not_ (.t (.op .all (.e (.comp [15] (.v 15) (.seq (.var 7)) .tt (.call 6 (.e (.call 55 (.v 3 (.v 15 .nil))) (.e (.cst (.bl true)) .nil)))) .nil)))) (.cons (.ret (.cst (.bl false))) .nil) .nil) (.cons (.asg (.v 8) (.comp [13, 14] (.vs [13, 14]) (.zip (.var 4) (.var 5)) .tt (.call 45 (.v 13 (.v 14 .nil))))) (.cons (.ife (.not_ (.t (.call 6 (.e (.imm (.call 39 (.v 3 (.e (.op .idx (.v 7 (.e (.cst (.int 0)) .nil))) .nil)))) (.e (.var 8) .nil))))) (.cons (.ret (.cst (.bl false))) .nil) .nil) .nil)))))))))))) (.cons (.ret (.cst (.bl true))) .nil))))
def b_Table___init__ : Ss := (.cons (.for_ (.v 5) (.seq (.tup (.cons (.var 1) (.cons (.var 2) (.cons (.var 3) (.cons (.var 4) .nil)))))) (.cons (.ife (.not_ (.t (.call 1 (.v 5 .nil)))) (.cons .never .nil) .nil) .nil)) (.cons (.setFld 0 3 (.var 1)) (.cons (.setFld 0 2 (.var 2)) (.cons (.setFld 0 1 (.var 3)) (.cons (.setFld 0 0 (.var 4)) .nil)))))
def b_Table___add__ : Ss := (.cons (.ife (.not_ (.t (.op (.isi [(.cls 0)]) (.v 1 .nil)))) (.cons .never .nil) .nil) (.cons (.ret (.call 34 (.e (.call 28 (.e (.op (.fld 3) (.v 0 .nil)) (.e (.op (.fld 3) (.v 1 .nil)) .nil))) (.e (.call 28 (.e (.op (.fld 2) (.v 0 .nil)) (.e (.op (.fld 2) (.v 1 .nil)) .nil))) (.e (.call 28 (.e (.op (.fld 1) (.v 0 .nil)) (.e (.op (.fld 1) (.v 1 .nil)) .nil))) (.e (.call 28 (.e (.op (.fld 0) (.v 0 .nil)) (.e (.op (.fld 0) (.v 1 .nil)) .nil))) .nil)))))) .nil))
def b_Table___sub__ : Ss := (.cons (.ife (.not_ (.t (.op (.isi [(.cls 0)]) (.v 1 .nil)))) (.cons .never .nil) .nil) (.cons (.ret (.call 34 (.e (.call 68 (.e (.op (.fld 3) (.v 0 .nil)) (.e (.op (.fld 3) (.v 1 .nil)) .nil))) (.e (.call 68 (.e (.op (.fld 2) (.v 0 .nil)) (.e (.op (.fld 2) (.v 1 .nil)) .nil))) (.e (.call 68 (.e (.op (.fld 1) (.v 0 .nil)) (.e (.op (.fld 1) (.v 1 .nil)) .nil))) (.e (.call 68 (.e (.op (.fld 0) (.v 0 .nil)) (.e (.op (.fld 0) (.v 1 .nil)) .nil))) .nil)))))) .nil))
def b_Table___neg__ : Ss := (.cons (.ret (.call 34 (.e (.call 35 (.e (.op (.fld 3) (.v 0 .nil)) .nil)) (.e (.call 35 (.e (.op (.fld 2) (.v 0 .nil)) .nil)) (.e (.call 35 (.e (.op (.fld 1) (.v 0 .nil)) .nil)) (.e (.call 35 (.e (.op (.fld 0) (.v 0 .nil)) .nil)) .nil)))))) .nil)
def b_Table___mul__ : Ss := (.cons (.ife (.not_ (.t (.op (.isi [(.cls 0)]) (.v 1 .nil)))) (.cons .never .nil) .nil) (.cons (.asg (.v 2) (.call 69 (.v 0 (.e (.tup (.cons (.op (.fld 3) (.v 1 .nil)) (.cons (.op (.fld 1) (.v 1 .nil)) .nil))) .nil)))) (.cons (.asg (.v 3) (.call 69 (.v 0 (.e (.tup (.cons (.op (.fld 2) (.v 1 .nil)) (.cons (.op (.fld 0) (.v 1 .nil)) .nil))) .nil)))) (.cons (.ret (.call 34 (.e (.op .idx (.v 2 (.e (.cst (.int 0)) .nil))) (.e (.op .idx (.v 3 (.e (.cst (.int 0)) .nil))) (.e (.op .idx (.v 2 (.e (.cst (.int 1)) .nil))) (.e (.op .idx (.v 3 (.e (.cst (.int 1)) .nil))) .nil)))))) .nil))))
def b_Table_scaled : Ss := (.cons (.ret (.call 34 (.e (.call 29 (.e (.op (.fld 3) (.v 0 .nil)) (.v 1 .nil))) (.e (.call 29 (.e (.op (.fld 2) (.v 0 .nil)) (.v 1 .nil))) (.e (.call 29 (.e (.op (.fld 1) (.v 0 .nil)) (.v 1 .nil))) (.e (.call 29 (.e (.op (.fld 0) (.v 0 .nil)) (.v 1 .nil))) .nil)))))) .nil)
def b_Table_entries : Ss := (.cons (.ret (.tup (.cons (.op (.fld 3) (.v 0 .nil)) (.cons (.op (.fld 2) (.v 0 .nil)) (.cons (.op (.fld 1) (.v 0 .nil)) (.cons (.op (.fld 0) (.v 0 .nil)) .nil)))))) .nil)
def b_Table_zero : Ss := (.cons (.ret (.call 34 (.e (.glo 4) (.e (.glo 4) (.e (.glo 4) (.e (.glo 4) .nil)))))) .nil)
def b_Table___eq__ : Ss := (.cons (.ret (.and_ (.op (.isi [(.cls 0)]) (.v 1 .nil)) (.and_ (.op .eq (.e (.op (.fld 3) (.v 0 .nil)) (.e (.op (.fld 3) (.v 1 .nil)) .nil))) (.and_ (.op .eq (.e (.op (.fld 2) (.v 0 .nil)) (.e (.op (.fld 2) (.v 1 .nil)) .nil))) (.and_ (.op .eq (.e (.op (.fld 1) (.v 0 .nil)) (.e (.op (.fld 1) (.v 1 .nil)) .nil))) (.op .eq (.e (.op (.fld 0) (.v 0 .nil)) (.e (.op (.fld 0) (.v 1 .nil)) .nil)))))))) .nil)
end Lw
end Ev
set_option Elab.async false
set_option linter.all false
set_option autoImplicit false
set_option maxRecDepth 100000
set_option maxHeartbeats 1000000
namespace Ev
namespace Lw
open PySem PySem.Spec PyProof.Rows L2
local macro_rules | `(tactic| walk_at "v") => `(tactic| ((try refine hol ?_); try simp (config := { maxSteps := 2000000, implicitDefEqProofs := false }) only [↓pu_n, ↓av_n, pu_n, av_n, ↓at_0, ↓at_S, ↓set_0, ↓set_S, ↓lk_i, ↓lk_o, ↓lk_p, ↓lk_l, ↓re_nil, ↓re_xi, ↓re_xo, ↓re_v, ↓fl_i, ↓fl_o, ↓fl_p, ↓fl_l, ↓ar_nil, ↓ar_x, ↓ar_v, ↓bk_nil, ↓bk_x, ↓bk_i, ↓wr_S, ↓wr_0f, ↓wr_0o, ↓wr_0p, ↓bk_p, ↓bk_l, ↓as_0, ↓as_S, ↓as_vs, ↓as_c, ↓pu_c, ↓tr_b, ↓tr_i, ↓tr_n, ↓tr_l, ↓tr_t, ↓tr_s, ↓bl_b, ↓in_i, ↓vl_i, ↓vl_o, ↓vl_p, ↓vl_l, ↓im_i, ↓im_o, ↓im_p, ↓wi_nil, ↓wi_c, ↓sq_l, ↓sq_f, ↓sq_t, ↓zp_ll, ↓zp_tt, ↓en_l, ↓rg_1, ↓rg_2, ↓ch_s, ↓fm_s, ↓fm_i, ↓st_0, ↓st_1, ↓st_2, ↓st_3, ↓st_4, ↓ap_l, ↓rv_o, ↓rv_p, ↓rv_i, ↓rv_l, ↓oK_nil, ↓oK_nil0, ↓oK_i, ↓oK_p, ↓oK_l, ↓g_nx, ↓g_nil, ↓g_cons, ↓g_asg, ↓g_par, ↓g_setIdx, ↓g_append, ↓g_ret, ↓g_retV, ↓g_retN, ↓g_sife, ↓g_for, ↓g_ex, ↓g_pass, ↓g_brk, ↓g_cont, ↓e_var, ↓e_cst, ↓e_glo, ↓e_op, ↓e_call, ↓e_tup, ↓e_lst, ↓e_ife, ↓e_and, ↓e_or, ↓e_not, ↓turn_eq, ↓e_comp, ↓e_fmt, ↓e_imm, ↓f_nil, ↓f_cons, ↓s_nil, ↓s_v, ↓s_e, ↓s_n, ↓t_nil, ↓t_cons, ↓b_tt, ↓b_t, ↓b_look, ↓b_and, ↓b_or, ↓b_not, ↓i_seq, ↓i_range, ↓i_chars, ↓i_zip, ↓i_enum, ↓ix_l0, ↓ix_l1, ↓ix_l2, ↓ix_l3, ↓ix_l4, ↓ix_t0, ↓ix_t1, ↓ix_t2, ↓ix_t3, ↓o_add, ↓o_adds, ↓o_sub, ↓o_mul, ↓o_fdiv, ↓o_mod, ↓o_pow, ↓o_neg, ↓o_eq, ↓o_ne, ↓o_lt, ↓o_le, ↓o_gt, ↓o_ge, ↓o_isN, ↓o_notN, ↓o_lenl, ↓o_lent, ↓o_lenf, ↓o_lens, ↓o_abs, ↓o_toInt, ↓o_isi, ↓o_gcd, ↓o_toList, ↓o_addl, ↓o_addt, ↓q_slc11l, ↓q_slc10l, ↓q_slc01l, ↓q_slc00l, ↓q_slc11f, ↓q_slc10f, ↓q_slc01f, ↓q_slc00f, ↓q_slc11t, ↓q_slc10t, ↓q_slc01t, ↓q_slc00t, ↓q_toIntb, ↓q_toListf, ↓q_toListt, ↓q_toTuplel, ↓q_toTuplet, ↓q_slcS11, ↓q_slcS10, ↓q_slcS01, ↓q_rep, ↓q_toStr, ↓q_strip, ↓q_starts, ↓q_part, ↓q_max2, ↓q_min2, ↓q_in, ↓q_notin, ↓np_none, ↓np_imm, ↓np_own, ↓e_meth, ↓ob_1, ↓ob_2a, ↓ob_2b, ↓g_setFld, ↓g_insert, ↓ins_l, ↓sf_o, ↓pf_n, ↓pf_c, ↓fd_c, ↓o_fldo, ↓o_flde, ↓q_int, ↓q_notint, ↓q_idxw, ↓e_pure, ↓cm_n, ↓cm_c, ↓cm_0, ↓e_take, ↓tk_o, ↓tk_i, ↓ix_t4, at_0, at_S, set_0, set_S, lk_i, lk_o, lk_p, lk_l, re_nil, re_xi, re_xo, re_v, fl_i, fl_o, fl_p, fl_l, ar_nil, ar_x, ar_v, bk_nil, bk_x, bk_i, wr_S, wr_0f, wr_0o, wr_0p, bk_p, bk_l, as_0, as_S, as_vs, as_c, pu_c, tr_b, tr_i, tr_n, tr_l, tr_t, tr_s, bl_b, in_i, vl_i, vl_o, vl_p, vl_l, im_i, im_o, im_p, wi_nil, wi_c, sq_l, sq_f, sq_t, zp_ll, zp_tt, en_l, rg_1, rg_2, ch_s, fm_s, fm_i, st_0, st_1, st_2, st_3, st_4, ap_l, rv_o, rv_p, rv_i, rv_l, oK_nil, oK_nil0, oK_i, oK_p, oK_l, g_nx, g_nil, g_cons, g_asg, g_par, g_setIdx, g_append, g_ret, g_retV, g_retN, g_sife, g_for, g_ex, g_pass, g_brk, g_cont, e_var, e_cst, e_glo, e_op, e_call, e_tup, e_lst, e_ife, e_and, e_or, e_not, turn_eq, e_comp, e_fmt, e_imm, f_nil, f_cons, s_nil, s_v, s_e, s_n, t_nil, t_cons, b_tt, b_t, b_look, b_and, b_or, b_not, i_seq, i_range, i_chars, i_zip, i_enum, ix_l0, ix_l1, ix_l2, ix_l3, ix_l4, ix_t0, ix_t1, ix_t2, ix_t3, o_add, o_adds, o_sub, o_mul, o_fdiv, o_mod, o_pow, o_neg, o_eq, o_ne, o_lt, o_le, o_gt, o_ge, o_isN, o_notN, o_lenl, o_lent, o_lenf, o_lens, o_abs, o_toInt, o_isi, o_gcd, o_toList, o_addl, o_addt, q_slc11l, q_slc10l, q_slc01l, q_slc00l, q_slc11f, q_slc10f, q_slc01f, q_slc00f, q_slc11t, q_slc10t, q_slc01t, q_slc00t, q_toIntb, q_toListf, q_toListt, q_toTuplel, q_toTuplet, q_slcS11, q_slcS10, q_slcS01, q_rep, q_toStr, q_strip, q_starts, q_part, q_max2, q_min2, q_in, q_notin, o_idxl, o_idxf, o_idxt, o_idxs, o_all, q_any, q_sum, q_toIntS, q_inS, st_n, Option.map_some, ex_sb, ex_sl, ex_some, ex_some2, ex_rg, ex_true, bl_ex, tr_bl, tr_int, tr_non, tr_lst, tr_tup, eq_bl, eq_int, eq_str, eq_non, la_bl, la_int, la_non, beq_self_eq_true, ou_nil, ou_imm, ou_par, ou_parl, ow_nil, ow_x, ow_v, oi_o, oi_p, oi_i, oi_l, nodupB, wb_nil, wb_c, wpi_n, wpi_i, wpi_o, r_at0, r_atS, r_put0, r_putS, List.contains_nil, List.contains_cons, List.reverse_cons, List.reverse_nil, List.nil_append, List.cons_append, List.set_cons_zero, List.set_cons_succ, true_and, and_true, if_true, if_false, Bool.false_eq_true, Bool.not_true, Bool.not_false, Bool.and_true, Bool.true_and, Bool.and_false, Bool.false_and, Bool.or_false, Bool.false_or, Bool.or_true, Bool.true_or, List.any_cons, List.any_nil, hasTy, ownF, reduceCtorEq, forP_nil, np_none, np_imm, np_own, a_0, a_1, a_2, a_3, a_4, a_5, a_6, a_7, i_0, i_1, i_2, i_3, i_4, i_5, i_6, i_7, List.map_cons, List.map_nil, imms, List.length_cons, List.length_nil, drawE, pickE, lowE, plusE, timesE, textE, readE, t_whole, t_isfr, isspE, t_common, e_meth, ob_1, ob_2a, ob_2b, g_setFld, g_insert, ins_l, sf_o, pf_n, pf_c, fd_c, o_fldo, o_flde, q_int, q_notint, q_idxw, e_pure, cm_n, cm_c, cm_0, e_take, tk_o, tk_i, ix_t4, Nat.reduceEqDiff, eq_self, flatD, fT0, fT1, fT2, fT3, fT4, bT0, bT1, bT2, *]))
local macro_rules | `(tactic| walk_at "c") => `(tactic| repeat (refine And.intro (by first | decide +kernel | omega | (simp only [line]; omega)) ?_))
local macro_rules | `(tactic| walk_at "s") => `(tactic| ((refine cutS fun Nx hNx => ?_); walk_at "v"))
local macro_rules | `(tactic| walk_at "n") => `(tactic| ((refine NxH.out (by assumption) _ ?_); (rw [g_nx]); (refine cutS fun Nx hNx => ?_); walk_at "v"))
local macro_rules | `(tactic| walk_at "m") => `(tactic| ((refine NxH.out (by assumption) _ ?_); walk_at "v"))
local macro_rules | `(tactic| walk_at "a") => `(tactic| ((refine cutA fun Nx hNx => ?_); walk_at "v"))
/-! ### promises by the values that stand behind -/
def pT {α : Type} (arg : α → List D) (pre : α → Prop) (res : α → D) : Tr := fun as Q _ => ∃ a, as = imms (arg a) ∧ pre a ∧ Q (.imm, res a) as
section
variable {α : Type} {arg : α → List D} {pre : α → Prop} {res : α → D} {Q : Val → List Val → Prop} {X : D → List Val → Prop} {a : α}
theorem pT_eq (inj : ∀ b, arg b = arg a → b = a) : pT arg pre res (imms (arg a)) Q X = (pre a ∧ Q (.imm, res a) (imms (arg a))) := by
  apply propext
  constructor
  · rintro ⟨b, e, h1, h2⟩
    have eb := inj b (imms_inj e).symm
    subst eb
    exact ⟨h1, h2⟩
  · rintro ⟨h1, h2⟩
    exact ⟨a, rfl, h1, h2⟩
theorem pT_ok {G : Glob} {np nl : Nat} {b : Ss} (h : ∀ a, pre a → ∀ Q X, Q (.imm, res a) (imms (arg a)) → runF G np nl b (imms (arg a)) Q X) : Ok G np nl b (pT arg pre res) := by
  rintro as Q X ⟨a, rfl, hp, hq⟩
  exact h a hp Q X hq
end
/-! ### tables -/
abbrev Q4 := Rat × Rat × Rat × Rat
def tb (t : Q4) : D := .obj 0 [(3, fr t.1), (2, fr t.2.1), (1, fr t.2.2.1), (0, fr t.2.2.2)]
def t4 (t : Q4) : D := .tup [fr t.1, fr t.2.1, fr t.2.2.1, fr t.2.2.2]
theorem tb_inj {t u : Q4} (h : tb t = tb u) : t = u := by
  obtain ⟨a, b, c, d⟩ := t
  obtain ⟨a', b', c', d'⟩ := u
  simp only [tb, D.obj.injEq, List.cons.injEq, Prod.mk.injEq, true_and, and_true] at h
  obtain ⟨h1, h2, h3, h4⟩ := h
  rw [fr_inj h1, fr_inj h2, fr_inj h3, fr_inj h4]
theorem t4_inj {t u : Q4} (h : t4 t = t4 u) : t = u := by
  obtain ⟨a, b, c, d⟩ := t
  obtain ⟨a', b', c', d'⟩ := u
  simp only [t4, D.tup.injEq, List.cons.injEq, and_true] at h
  obtain ⟨h1, h2, h3, h4⟩ := h
  rw [fr_inj h1, fr_inj h2, fr_inj h3, fr_inj h4]
def SmQ (k : Nat) (t : Q4) : Prop := Sm k t.1 ∧ Sm k t.2.1 ∧ Sm k t.2.2.1 ∧ Sm k t.2.2.2
theorem smQ_mono {k l : Nat} {t : Q4} (h : SmQ k t) (le : k ≤ l) : SmQ l t := ⟨sm_mono h.1 le, sm_mono h.2.1 le, sm_mono h.2.2.1 le, sm_mono h.2.2.2 le⟩
theorem sm_zero {k : Nat} : Sm (k + 1) 0 := ⟨Nat.two_pow_pos _, Nat.one_lt_two_pow (by omega)⟩
theorem sm_one {k : Nat} : Sm (k + 1) 1 := ⟨Nat.one_lt_two_pow (by omega), Nat.one_lt_two_pow (by omega)⟩
theorem sm_neg {k : Nat} {x : Rat} (h : Sm k x) : Sm k (-x) := ⟨by rw [Rat.neg_num, Int.natAbs_neg]; exact h.1, h.2⟩
theorem fr_zero : fr 0 = .tup [.int 0, .int 1] := rfl
theorem fr_one : fr 1 = .tup [.int 1, .int 1] := rfl
theorem fr_neg (x : Rat) : D.tup [.int (-x.num), .int x.den] = fr (-x) := rfl
theorem fr_m1 : fr (-1) = .tup [.int (-1), .int 1] := rfl
theorem isFrac_fr (x : Rat) : isFrac (fr x) = true := by
  show frac2 (.int x.num) (.int x.den) = true
  unfold frac2
  have h1 := x.den_nz
  have h2 := x.reduced
  have h3 : (1 : Int) ≤ (x.den : Int) := by omega
  first
    | (simp only [Int.natAbs_natCast]; simp [h3]; exact h2)
    | (simp [h3]; exact h2)
    | (simp; omega)
/-! ### the rows -/
def minusT : Tr := pT (fun p : Rat × Rat => [fr p.1, fr p.2]) (fun p => Sm 1400 p.1 ∧ Sm 1400 p.2) (fun p => fr (p.1 - p.2))
def negT : Tr := pT (fun x : Rat => [fr x]) (fun _ => True) (fun x => fr (-x))
def applT : Tr := pT (fun p : Q4 × Rat × Rat => [tb p.1, .tup [fr p.2.1, fr p.2.2]]) (fun p => SmQ 700 p.1 ∧ Sm 700 p.2.1 ∧ Sm 700 p.2.2) (fun p => .tup [fr (p.1.1 * p.2.1 + p.1.2.1 * p.2.2), fr (p.1.2.2.1 * p.2.1 + p.1.2.2.2 * p.2.2)])
def makeT : Tr := pT (fun t : Q4 => [fr t.1, fr t.2.1, fr t.2.2.1, fr t.2.2.2]) (fun _ => True) tb
def initT : Tr := fun as Q _ => ∃ t : Q4, as = (.par, .obj 0 []) :: imms [fr t.1, fr t.2.1, fr t.2.2.1, fr t.2.2.2] ∧ Q (.imm, .non) ((.par, tb t) :: imms [fr t.1, fr t.2.1, fr t.2.2.1, fr t.2.2.2])
def addT : Tr := pT (fun p : Q4 × Q4 => [tb p.1, tb p.2]) (fun p => SmQ 600 p.1 ∧ SmQ 600 p.2) (fun p => tb (p.1.1 + p.2.1, p.1.2.1 + p.2.2.1, p.1.2.2.1 + p.2.2.2.1, p.1.2.2.2 + p.2.2.2.2))
def subT : Tr := pT (fun p : Q4 × Q4 => [tb p.1, tb p.2]) (fun p => SmQ 600 p.1 ∧ SmQ 600 p.2) (fun p => tb (p.1.1 - p.2.1, p.1.2.1 - p.2.2.1, p.1.2.2.1 - p.2.2.2.1, p.1.2.2.2 - p.2.2.2.2))
def negtT : Tr := pT (fun t : Q4 => [tb t]) (fun _ => True) (fun t => tb (-t.1, -t.2.1, -t.2.2.1, -t.2.2.2))
def mulQ (t s : Q4) : Q4 := (t.1 * s.1 + t.2.1 * s.2.2.1, t.1 * s.2.1 + t.2.1 * s.2.2.2, t.2.2.1 * s.1 + t.2.2.2 * s.2.2.1, t.2.2.1 * s.2.1 + t.2.2.2 * s.2.2.2)
def multT : Tr := pT (fun p : Q4 × Q4 => [tb p.1, tb p.2]) (fun p => SmQ 700 p.1 ∧ SmQ 700 p.2) (fun p => tb (mulQ p.1 p.2))
def scalT : Tr := pT (fun p : Q4 × Rat => [tb p.1, fr p.2]) (fun p => SmQ 600 p.1 ∧ Sm 600 p.2) (fun p => tb (p.1.1 * p.2, p.1.2.1 * p.2, p.1.2.2.1 * p.2, p.1.2.2.2 * p.2))
def entT : Tr := pT (fun t : Q4 => [tb t]) (fun _ => True) t4
def zeroT : Tr := pT (fun _ : Unit => []) (fun _ => True) (fun _ => tb (0, 0, 0, 0))
def eqtT : Tr := pT (fun p : Q4 × Q4 => [tb p.1, tb p.2]) (fun _ => True) (fun p => .bl (decide (p.1 = p.2)))
section
variable {Q : Val → List Val → Prop} {X : D → List Val → Prop} {x y u v : Rat} {t s : Q4} {a b c d : Rat}
theorem one_inj {b a : Rat} (h : [fr b] = [fr a]) : b = a := fr_inj (List.cons.inj h).1
theorem two_inj {b a : Rat × Rat} (h : [fr b.1, fr b.2] = [fr a.1, fr a.2]) : b = a := by
  simp only [List.cons.injEq, and_true] at h
  exact Prod.ext (fr_inj h.1) (fr_inj h.2)
theorem tt_inj {b a : Q4 × Q4} (h : [tb b.1, tb b.2] = [tb a.1, tb a.2]) : b = a := by
  simp only [List.cons.injEq, and_true] at h
  exact Prod.ext (tb_inj h.1) (tb_inj h.2)
theorem ot_inj {b a : Q4} (h : [tb b] = [tb a]) : b = a := tb_inj (List.cons.inj h).1
theorem minusE : minusT [(.imm, fr x), (.imm, fr y)] Q X = ((Sm 1400 x ∧ Sm 1400 y) ∧ Q (.imm, fr (x - y)) [(.imm, fr x), (.imm, fr y)]) := pT_eq (a := (x, y)) fun _ h => two_inj h
theorem negE : negT [(.imm, fr x)] Q X = (True ∧ Q (.imm, fr (-x)) [(.imm, fr x)]) := pT_eq (a := x) fun _ h => one_inj h
theorem applE : applT [(.imm, tb t), (.imm, .tup [fr u, fr v])] Q X = ((SmQ 700 t ∧ Sm 700 u ∧ Sm 700 v) ∧ Q (.imm, .tup [fr (t.1 * u + t.2.1 * v), fr (t.2.2.1 * u + t.2.2.2 * v)]) [(.imm, tb t), (.imm, .tup [fr u, fr v])]) := pT_eq (a := (t, u, v)) fun b h => by
  obtain ⟨t', u', v'⟩ := b
  simp only [List.cons.injEq, D.tup.injEq, and_true] at h
  obtain ⟨h1, h2, h3⟩ := h
  rw [tb_inj h1, fr_inj h2, fr_inj h3]
theorem makeE : makeT [(.imm, fr a), (.imm, fr b), (.imm, fr c), (.imm, fr d)] Q X = (True ∧ Q (.imm, tb (a, b, c, d)) [(.imm, fr a), (.imm, fr b), (.imm, fr c), (.imm, fr d)]) := pT_eq (a := (a, b, c, d)) fun e h => by
  obtain ⟨a', b', c', d'⟩ := e
  simp only [List.cons.injEq, and_true] at h
  obtain ⟨h1, h2, h3, h4⟩ := h
  rw [fr_inj h1, fr_inj h2, fr_inj h3, fr_inj h4]
theorem addE : addT [(.imm, tb t), (.imm, tb s)] Q X = ((SmQ 600 t ∧ SmQ 600 s) ∧ Q (.imm, tb (t.1 + s.1, t.2.1 + s.2.1, t.2.2.1 + s.2.2.1, t.2.2.2 + s.2.2.2)) [(.imm, tb t), (.imm, tb s)]) := pT_eq (a := (t, s)) fun _ h => tt_inj h
theorem subE : subT [(.imm, tb t), (.imm, tb s)] Q X = ((SmQ 600 t ∧ SmQ 600 s) ∧ Q (.imm, tb (t.1 - s.1, t.2.1 - s.2.1, t.2.2.1 - s.2.2.1, t.2.2.2 - s.2.2.2)) [(.imm, tb t), (.imm, tb s)]) := pT_eq (a := (t, s)) fun _ h => tt_inj h
theorem negtE : negtT [(.imm, tb t)] Q X = (True ∧ Q (.imm, tb (-t.1, -t.2.1, -t.2.2.1, -t.2.2.2)) [(.imm, tb t)]) := pT_eq (a := t) fun _ h => ot_inj h
theorem multE : multT [(.imm, tb t), (.imm, tb s)] Q X = ((SmQ 700 t ∧ SmQ 700 s) ∧ Q (.imm, tb (mulQ t s)) [(.imm, tb t), (.imm, tb s)]) := pT_eq (a := (t, s)) fun _ h => tt_inj h
theorem scalE : scalT [(.imm, tb t), (.imm, fr x)] Q X = ((SmQ 600 t ∧ Sm 600 x) ∧ Q (.imm, tb (t.1 * x, t.2.1 * x, t.2.2.1 * x, t.2.2.2 * x)) [(.imm, tb t), (.imm, fr x)]) := pT_eq (a := (t, x)) fun b h => by
  obtain ⟨t', x'⟩ := b
  simp only [List.cons.injEq, and_true] at h
  rw [tb_inj h.1, fr_inj h.2]
theorem entE : entT [(.imm, tb t)] Q X = (True ∧ Q (.imm, t4 t) [(.imm, tb t)]) := pT_eq (a := t) fun _ h => ot_inj h
theorem zeroE : zeroT [] Q X = (True ∧ Q (.imm, tb (0, 0, 0, 0)) []) := pT_eq (a := ()) fun _ _ => rfl
theorem eqtE : eqtT [(.imm, tb t), (.imm, tb s)] Q X = (True ∧ Q (.imm, .bl (decide (t = s))) [(.imm, tb t), (.imm, tb s)]) := pT_eq (a := (t, s)) fun _ h => tt_inj h
end
/-! rows that keep fractions and tables closed -/
section
variable {P : Val → Prop} {x y : Rat} {t s : Q4} {n : Nat} {cs : List Nat} {R : Prop}
theorem ix_f0 : opP .idx [fr x, .int 0] P = P (.imm, .int x.num) := ix_t0
theorem ix_f1 : opP .idx [fr x, .int 1] P = P (.imm, .int x.den) := ix_t1
theorem la_fr : lay (n + 1) (fr x) = true := by
  show ([D.int x.num, .int x.den].all (lay n)) = true
  simp [la_int]
theorem eq_fr : eqD (fr x) (fr y) = decide (x = y) := by
  show ((x.num == y.num) && (((x.den : Int) == (y.den : Int)) && true)) = _
  by_cases h : x = y
  · subst h
    simp
  · rw [decide_eq_false h]
    by_cases h1 : x.num = y.num
    · have h2 : x.den ≠ y.den := fun z => h (Rat.ext h1 z)
      have h3 : ((x.den : Int) == (y.den : Int)) = false := by
        rw [beq_eq_false_iff_ne]
        omega
      rw [h3]
      simp
    · rw [show (x.num == y.num) = false from by simpa using h1]
      rfl
theorem fl_t0 : opP (.fld 3) [tb t] P = P (.imm, fr t.1) := by
  show (∃ d, (some (fr t.1)) = some d ∧ P (.imm, d)) = _
  exact ex_some
theorem fl_t1 : opP (.fld 2) [tb t] P = P (.imm, fr t.2.1) := by
  show (∃ d, (some (fr t.2.1)) = some d ∧ P (.imm, d)) = _
  exact ex_some
theorem fl_t2 : opP (.fld 1) [tb t] P = P (.imm, fr t.2.2.1) := by
  show (∃ d, (some (fr t.2.2.1)) = some d ∧ P (.imm, d)) = _
  exact ex_some
theorem fl_t3 : opP (.fld 0) [tb t] P = P (.imm, fr t.2.2.2) := by
  show (∃ d, (some (fr t.2.2.2)) = some d ∧ P (.imm, d)) = _
  exact ex_some
theorem ob_tb : obK (.imm, tb t) [0] R = R := ob_1
theorem ty_tb : hasTy (.cls 0) (tb t) = true := rfl
theorem ix_q0 : opP .idx [t4 t, .int 0] P = P (.imm, fr t.1) := ix_t0
theorem ix_q1 : opP .idx [t4 t, .int 1] P = P (.imm, fr t.2.1) := ix_t1
theorem ix_q2 : opP .idx [t4 t, .int 2] P = P (.imm, fr t.2.2.1) := ix_t2
theorem ix_q3 : opP .idx [t4 t, .int 3] P = P (.imm, fr t.2.2.2) := ix_t3
end
end Lw
end Ev
set_option Elab.async false
set_option linter.all false
set_option autoImplicit false
set_option maxRecDepth 100000
set_option maxHeartbeats 1000000
namespace Ev
namespace Lw
open PySem PySem.Spec PyProof.Rows L2
local macro_rules | `(tactic| walk_at "v") => `(tactic| ((try refine hol ?_); try simp (config := { maxSteps := 2000000, implicitDefEqProofs := false }) only [↓pu_n, ↓av_n, pu_n, av_n, ↓at_0, ↓at_S, ↓set_0, ↓set_S, ↓lk_i, ↓lk_o, ↓lk_p, ↓lk_l, ↓re_nil, ↓re_xi, ↓re_xo, ↓re_v, ↓fl_i, ↓fl_o, ↓fl_p, ↓fl_l, ↓ar_nil, ↓ar_x, ↓ar_v, ↓bk_nil, ↓bk_x, ↓bk_i, ↓wr_S, ↓wr_0f, ↓wr_0o, ↓wr_0p, ↓bk_p, ↓bk_l, ↓as_0, ↓as_S, ↓as_vs, ↓as_c, ↓pu_c, ↓tr_b, ↓tr_i, ↓tr_n, ↓tr_l, ↓tr_t, ↓tr_s, ↓bl_b, ↓in_i, ↓vl_i, ↓vl_o, ↓vl_p, ↓vl_l, ↓im_i, ↓im_o, ↓im_p, ↓wi_nil, ↓wi_c, ↓sq_l, ↓sq_f, ↓sq_t, ↓zp_ll, ↓zp_tt, ↓en_l, ↓rg_1, ↓rg_2, ↓ch_s, ↓fm_s, ↓fm_i, ↓st_0, ↓st_1, ↓st_2, ↓st_3, ↓st_4, ↓ap_l, ↓rv_o, ↓rv_p, ↓rv_i, ↓rv_l, ↓oK_nil, ↓oK_nil0, ↓oK_i, ↓oK_p, ↓oK_l, ↓g_nx, ↓g_nil, ↓g_cons, ↓g_asg, ↓g_par, ↓g_setIdx, ↓g_append, ↓g_ret, ↓g_retV, ↓g_retN, ↓g_sife, ↓g_for, ↓g_ex, ↓g_pass, ↓g_brk, ↓g_cont, ↓e_var, ↓e_cst, ↓e_glo, ↓e_op, ↓e_call, ↓e_tup, ↓e_lst, ↓e_ife, ↓e_and, ↓e_or, ↓e_not, ↓turn_eq, ↓e_comp, ↓e_fmt, ↓e_imm, ↓f_nil, ↓f_cons, ↓s_nil, ↓s_v, ↓s_e, ↓s_n, ↓t_nil, ↓t_cons, ↓b_tt, ↓b_t, ↓b_look, ↓b_and, ↓b_or, ↓b_not, ↓i_seq, ↓i_range, ↓i_chars, ↓i_zip, ↓i_enum, ↓ix_l0, ↓ix_l1, ↓ix_l2, ↓ix_l3, ↓ix_l4, ↓ix_t0, ↓ix_t1, ↓ix_t2, ↓ix_t3, ↓o_add, ↓o_adds, ↓o_sub, ↓o_mul, ↓o_fdiv, ↓o_mod, ↓o_pow, ↓o_neg, ↓o_eq, ↓o_ne, ↓o_lt, ↓o_le, ↓o_gt, ↓o_ge, ↓o_isN, ↓o_notN, ↓o_lenl, ↓o_lent, ↓o_lenf, ↓o_lens, ↓o_abs, ↓o_toInt, ↓o_isi, ↓o_gcd, ↓o_toList, ↓o_addl, ↓o_addt, ↓q_slc11l, ↓q_slc10l, ↓q_slc01l, ↓q_slc00l, ↓q_slc11f, ↓q_slc10f, ↓q_slc01f, ↓q_slc00f, ↓q_slc11t, ↓q_slc10t, ↓q_slc01t, ↓q_slc00t, ↓q_toIntb, ↓q_toListf, ↓q_toListt, ↓q_toTuplel, ↓q_toTuplet, ↓q_slcS11, ↓q_slcS10, ↓q_slcS01, ↓q_rep, ↓q_toStr, ↓q_strip, ↓q_starts, ↓q_part, ↓q_max2, ↓q_min2, ↓q_in, ↓q_notin, ↓np_none, ↓np_imm, ↓np_own, ↓ix_f0, ↓ix_f1, ↓la_fr, ↓eq_fr, ↓fl_t0, ↓fl_t1, ↓fl_t2, ↓fl_t3, ↓ob_tb, ↓ty_tb, ↓ix_q0, ↓ix_q1, ↓ix_q2, ↓ix_q3, ↓List.any_cons, ↓List.any_nil, ↓minusE, ↓negE, ↓applE, ↓makeE, ↓addE, ↓subE, ↓negtE, ↓multE, ↓scalE, ↓entE, ↓zeroE, ↓eqtE, ↓e_meth, ↓ob_1, ↓ob_2a, ↓ob_2b, ↓g_setFld, ↓g_insert, ↓ins_l, ↓sf_o, ↓pf_n, ↓pf_c, ↓fd_c, ↓o_fldo, ↓o_flde, ↓q_int, ↓q_notint, ↓q_idxw, ↓e_pure, ↓cm_n, ↓cm_c, ↓cm_0, ↓e_take, ↓tk_o, ↓tk_i, ↓ix_t4, at_0, at_S, set_0, set_S, lk_i, lk_o, lk_p, lk_l, re_nil, re_xi, re_xo, re_v, fl_i, fl_o, fl_p, fl_l, ar_nil, ar_x, ar_v, bk_nil, bk_x, bk_i, wr_S, wr_0f, wr_0o, wr_0p, bk_p, bk_l, as_0, as_S, as_vs, as_c, pu_c, tr_b, tr_i, tr_n, tr_l, tr_t, tr_s, bl_b, in_i, vl_i, vl_o, vl_p, vl_l, im_i, im_o, im_p, wi_nil, wi_c, sq_l, sq_f, sq_t, zp_ll, zp_tt, en_l, rg_1, rg_2, ch_s, fm_s, fm_i, st_0, st_1, st_2, st_3, st_4, ap_l, rv_o, rv_p, rv_i, rv_l, oK_nil, oK_nil0, oK_i, oK_p, oK_l, g_nx, g_nil, g_cons, g_asg, g_par, g_setIdx, g_append, g_ret, g_retV, g_retN, g_sife, g_for, g_ex, g_pass, g_brk, g_cont, e_var, e_cst, e_glo, e_op, e_call, e_tup, e_lst, e_ife, e_and, e_or, e_not, turn_eq, e_comp, e_fmt, e_imm, f_nil, f_cons, s_nil, s_v, s_e, s_n, t_nil, t_cons, b_tt, b_t, b_look, b_and, b_or, b_not, i_seq, i_range, i_chars, i_zip, i_enum, ix_l0, ix_l1, ix_l2, ix_l3, ix_l4, ix_t0, ix_t1, ix_t2, ix_t3, o_add, o_adds, o_sub, o_mul, o_fdiv, o_mod, o_pow, o_neg, o_eq, o_ne, o_lt, o_le, o_gt, o_ge, o_isN, o_notN, o_lenl, o_lent, o_lenf, o_lens, o_abs, o_toInt, o_isi, o_gcd, o_toList, o_addl, o_addt, q_slc11l, q_slc10l, q_slc01l, q_slc00l, q_slc11f, q_slc10f, q_slc01f, q_slc00f, q_slc11t, q_slc10t, q_slc01t, q_slc00t, q_toIntb, q_toListf, q_toListt, q_toTuplel, q_toTuplet, q_slcS11, q_slcS10, q_slcS01, q_rep, q_toStr, q_strip, q_starts, q_part, q_max2, q_min2, q_in, q_notin, o_idxl, o_idxf, o_idxt, o_idxs, o_all, q_any, q_sum, q_toIntS, q_inS, st_n, Option.map_some, ex_sb, ex_sl, ex_some, ex_some2, ex_rg, ex_true, bl_ex, tr_bl, tr_int, tr_non, tr_lst, tr_tup, eq_bl, eq_int, eq_str, eq_non, la_bl, la_int, la_non, beq_self_eq_true, ou_nil, ou_imm, ou_par, ou_parl, ow_nil, ow_x, ow_v, oi_o, oi_p, oi_i, oi_l, nodupB, wb_nil, wb_c, wpi_n, wpi_i, wpi_o, r_at0, r_atS, r_put0, r_putS, List.contains_nil, List.contains_cons, List.reverse_cons, List.reverse_nil, List.nil_append, List.cons_append, List.set_cons_zero, List.set_cons_succ, true_and, and_true, if_true, if_false, Bool.false_eq_true, Bool.not_true, Bool.not_false, Bool.and_true, Bool.true_and, Bool.and_false, Bool.false_and, Bool.or_false, Bool.false_or, Bool.or_true, Bool.true_or, List.any_cons, List.any_nil, hasTy, ownF, reduceCtorEq, forP_nil, np_none, np_imm, np_own, a_0, a_1, a_2, a_3, a_4, a_5, a_6, a_7, i_0, i_1, i_2, i_3, i_4, i_5, i_6, i_7, List.map_cons, List.map_nil, imms, List.length_cons, List.length_nil, ix_f0, ix_f1, la_fr, eq_fr, fl_t0, fl_t1, fl_t2, fl_t3, ob_tb, ty_tb, ix_q0, ix_q1, ix_q2, ix_q3, List.any_cons, List.any_nil, minusE, negE, applE, makeE, addE, subE, negtE, multE, scalE, entE, zeroE, eqtE, drawE, pickE, lowE, plusE, timesE, textE, readE, t_whole, t_isfr, isspE, t_common, e_meth, ob_1, ob_2a, ob_2b, g_setFld, g_insert, ins_l, sf_o, pf_n, pf_c, fd_c, o_fldo, o_flde, q_int, q_notint, q_idxw, e_pure, cm_n, cm_c, cm_0, e_take, tk_o, tk_i, ix_t4, Nat.reduceEqDiff, eq_self, flatD, fT0, fT1, fT2, fT3, fT4, bT0, bT1, bT2, *]))
local macro_rules | `(tactic| walk_at "c") => `(tactic| repeat (refine And.intro (by first | decide +kernel | omega | (simp only [line]; omega)) ?_))
local macro_rules | `(tactic| walk_at "s") => `(tactic| ((refine cutS fun Nx hNx => ?_); walk_at "v"))
local macro_rules | `(tactic| walk_at "n") => `(tactic| ((refine NxH.out (by assumption) _ ?_); (rw [g_nx]); (refine cutS fun Nx hNx => ?_); walk_at "v"))
local macro_rules | `(tactic| walk_at "m") => `(tactic| ((refine NxH.out (by assumption) _ ?_); walk_at "v"))
local macro_rules | `(tactic| walk_at "a") => `(tactic| ((refine cutA fun Nx hNx => ?_); walk_at "v"))
--#m2
theorem bnd_mul {i j : Int} {k : Nat} (h1 : i.natAbs < 2 ^ k) (h2 : j.natAbs < 2 ^ k) (h0 : 0 < k) (h : k < 3000) : MulOk i j := mul_ok (k := k) (by omega) h1 h2 h0
theorem sub_eq (x y : Rat) : Rat.divInt (x.num * y.den - y.num * x.den) ((x.den : Int) * y.den) = x - y := by
  rw [Rat.sub_eq_add_neg, ← add_eq x (-y)]
  congr 1
  rw [Rat.neg_num, Rat.neg_den, Int.neg_mul]
  omega
theorem sub_int {x y : Rat} (hx : x.den = 1) (hy : y.den = 1) : fr (x - y) = .tup [.int (x.num - y.num), .int 1] := by
  rw [Rat.sub_eq_add_neg, add_int hx (by rw [Rat.neg_den]; exact hy), Rat.neg_num]
  rfl
theorem minus_facts {x y : Rat} (sx : Sm 1400 x) (sy : Sm 1400 y) : MulOk x.num y.den ∧ MulOk y.num x.den ∧ MulOk (x.den : Int) y.den ∧ (x.den : Int) * y.den ≠ 0 ∧ ((x.den : Int) * y.den).natAbs.log2 < 8000 := by
  have nx := x.den_nz
  have ny := y.den_nz
  have e2 : ((x.den : Int) * y.den).natAbs = x.den * y.den := by rw [Int.natAbs_mul, Int.natAbs_natCast, Int.natAbs_natCast]
  have hd : ((x.den : Int) * y.den).natAbs.log2 < 8000 := by
    have : x.den * y.den < 2 ^ (1400 + 1400) := by
      rw [Nat.pow_add]
      exact Nat.mul_lt_mul'' sx.2 sy.2
    have := log_lt (by omega) this
    rw [e2]
    omega
  have hd0 : (x.den : Int) * y.den ≠ 0 := Int.mul_ne_zero (by omega) (by omega)
  have m1 : MulOk x.num y.den := bnd_mul sx.1 (by rw [Int.natAbs_natCast]; exact sy.2) (by decide) (by decide)
  have m2 : MulOk y.num x.den := bnd_mul sy.1 (by rw [Int.natAbs_natCast]; exact sx.2) (by decide) (by decide)
  have m3 : MulOk (x.den : Int) y.den := bnd_mul (by rw [Int.natAbs_natCast]; exact sx.2) (by rw [Int.natAbs_natCast]; exact sy.2) (by decide) (by decide)
  exact ⟨m1, m2, m3, hd0, hd⟩
theorem den_one {x : Rat} (h : ((x.den : Int) == 1) = true) : x.den = 1 := by
  have := eq_of_beq h
  omega
theorem minus_ok (G : Glob) (h2 : G.fn 2 = fnT rLow) : Ok G 2 0 b_minus minusT := by
  refine pT_ok ?_
  rintro ⟨x, y⟩ hxy Q X hQ
  replace hQ : Q (.imm, fr (x - y)) [(.imm, fr x), (.imm, fr y)] := hQ
  rw [run_eq]
  refine ⟨rfl, ?_⟩
  show wpSs G b_minus [some (.imm, fr x), some (.imm, fr y)] _
  simp only [b_minus]
  have e := sub_eq x y
  cases bx : ((x.den : Int) == 1) with
  | true =>
    cases bY : ((y.den : Int) == 1) with
    | true =>
      have hQ' : Q (.imm, .tup [.int (x.num - y.num), .int 1]) [(.imm, fr x), (.imm, fr y)] := by rw [← sub_int (den_one bx) (den_one bY)]; exact hQ
      walk_at "v"
    | false =>
      walk_at "v"
      obtain ⟨m1, m2, m3, hd0, hd⟩ := minus_facts hxy.1 hxy.2
      exact ⟨m1, m2, m3, hd0, hd⟩
  | false =>
    walk_at "v"
    obtain ⟨m1, m2, m3, hd0, hd⟩ := minus_facts hxy.1 hxy.2
    exact ⟨m1, m2, m3, hd0, hd⟩
theorem neg_ok (G : Glob) : Ok G 1 0 b_negative negT := by
  refine pT_ok ?_
  rintro x _ Q X hQ
  rw [run_eq]
  refine ⟨rfl, ?_⟩
  show wpSs G b_negative [some (.imm, fr x)] _
  simp only [b_negative]
  walk_at "v"
  exact hQ
theorem init_ok (G : Glob) (h1 : G.fn 1 = fnT rIsFr) (hh : ∀ i, i < 4 → G.has 0 i = true) : Ok G 5 1 b_Table___init__ initT := by
  rintro as Q X ⟨t, rfl, hQ⟩
  rw [run_eq]
  refine ⟨rfl, ?_⟩
  show wpSs G b_Table___init__ [some (.par, .obj 0 []), some (.imm, fr t.1), some (.imm, fr t.2.1), some (.imm, fr t.2.2.1), some (.imm, fr t.2.2.2), none] _
  have g0 := hh 0 (by decide)
  have g1 := hh 1 (by decide)
  have g2 := hh 2 (by decide)
  have g3 := hh 3 (by decide)
  have i1 := isFrac_fr t.1
  have i2 := isFrac_fr t.2.1
  have i3 := isFrac_fr t.2.2.1
  have i4 := isFrac_fr t.2.2.2
  simp only [b_Table___init__]
  walk_at "s"
  simp only [forP_cons]
  walk_at "v"
  simp only [forP_cons]
  walk_at "v"
  simp only [forP_cons]
  walk_at "v"
  simp only [forP_cons]
  walk_at "v"
  walk_at "m"
  exact ⟨by decide, by decide, by decide, by decide, hQ⟩
theorem appl_ok (G : Glob) (h28 : G.fn 28 = fnT rPlus) (h29 : G.fn 29 = fnT rTimes) : Ok G 2 2 b__applied applT := by
  refine pT_ok ?_
  rintro ⟨t, u, v⟩ ⟨ht, hu, hv⟩ Q X hQ
  rw [run_eq]
  refine ⟨rfl, ?_⟩
  show wpSs G b__applied [some (.imm, tb t), some (.imm, .tup [fr u, fr v]), none, none] _
  simp only [b__applied]
  walk_at "v"
  have hu : Sm 700 u := hu
  have hv : Sm 700 v := hv
  have m1 : ∀ {x y : Rat}, Sm 700 x → Sm 700 y → ∃ k, k < 3000 ∧ 0 < k ∧ Sm k x ∧ Sm k y := fun a b => ⟨700, by decide, by decide, a, b⟩
  have m2 : ∀ {x y z w : Rat}, Sm 700 x → Sm 700 y → Sm 700 z → Sm 700 w → ∃ k, k < 3000 ∧ 0 < k ∧ Sm k (x * y) ∧ Sm k (z * w) := fun a b c d => ⟨1400, by decide, by decide, sm_mul a b, sm_mul c d⟩
  exact ⟨m1 ht.1 hu, m1 ht.2.1 hv, m2 ht.1 hu ht.2.1 hv, m1 ht.2.2.1 hu, m1 ht.2.2.2 hv, m2 ht.2.2.1 hu ht.2.2.2 hv, hQ⟩
theorem add_ok (G : Glob) (h28 : G.fn 28 = fnT rPlus) (h34 : G.fn 34 = makeT) : Ok G 2 0 b_Table___add__ addT := by
  refine pT_ok ?_
  rintro ⟨t, s⟩ ⟨ht, hs⟩ Q X hQ
  rw [run_eq]
  refine ⟨rfl, ?_⟩
  show wpSs G b_Table___add__ [some (.imm, tb t), some (.imm, tb s)] _
  simp only [b_Table___add__]
  walk_at "v"
  have ht : SmQ 600 t := ht
  have hs : SmQ 600 s := hs
  have m1 : ∀ {x y : Rat}, Sm 600 x → Sm 600 y → ∃ k, k < 3000 ∧ 0 < k ∧ Sm k x ∧ Sm k y := fun a b => ⟨600, by decide, by decide, a, b⟩
  exact ⟨m1 ht.1 hs.1, m1 ht.2.1 hs.2.1, m1 ht.2.2.1 hs.2.2.1, m1 ht.2.2.2 hs.2.2.2, hQ⟩
theorem sub_ok (G : Glob) (h68 : G.fn 68 = minusT) (h34 : G.fn 34 = makeT) : Ok G 2 0 b_Table___sub__ subT := by
  refine pT_ok ?_
  rintro ⟨t, s⟩ ⟨ht, hs⟩ Q X hQ
  rw [run_eq]
  refine ⟨rfl, ?_⟩
  show wpSs G b_Table___sub__ [some (.imm, tb t), some (.imm, tb s)] _
  simp only [b_Table___sub__]
  walk_at "v"
  have ht : SmQ 1400 t := smQ_mono ht (by decide)
  have hs : SmQ 1400 s := smQ_mono hs (by decide)
  exact ⟨⟨ht.1, hs.1⟩, ⟨ht.2.1, hs.2.1⟩, ⟨ht.2.2.1, hs.2.2.1⟩, ⟨ht.2.2.2, hs.2.2.2⟩, hQ⟩
theorem negt_ok (G : Glob) (h35 : G.fn 35 = negT) (h34 : G.fn 34 = makeT) : Ok G 1 0 b_Table___neg__ negtT := by
  refine pT_ok ?_
  rintro t _ Q X hQ
  rw [run_eq]
  refine ⟨rfl, ?_⟩
  show wpSs G b_Table___neg__ [some (.imm, tb t)] _
  simp only [b_Table___neg__]
  walk_at "v"
  exact hQ
theorem mult_ok (G : Glob) (h69 : G.fn 69 = applT) (h34 : G.fn 34 = makeT) : Ok G 2 2 b_Table___mul__ multT := by
  refine pT_ok ?_
  rintro ⟨t, s⟩ ⟨ht, hs⟩ Q X hQ
  rw [run_eq]
  refine ⟨rfl, ?_⟩
  show wpSs G b_Table___mul__ [some (.imm, tb t), some (.imm, tb s), none, none] _
  simp only [b_Table___mul__]
  walk_at "v"
  have ht : SmQ 700 t := ht
  have hs : SmQ 700 s := hs
  exact ⟨⟨hs.1, hs.2.2.1⟩, ⟨hs.2.1, hs.2.2.2⟩, hQ⟩
theorem scal_ok (G : Glob) (h29 : G.fn 29 = fnT rTimes) (h34 : G.fn 34 = makeT) : Ok G 2 0 b_Table_scaled scalT := by
  refine pT_ok ?_
  rintro ⟨t, x⟩ ⟨ht, hx⟩ Q X hQ
  rw [run_eq]
  refine ⟨rfl, ?_⟩
  show wpSs G b_Table_scaled [some (.imm, tb t), some (.imm, fr x)] _
  simp only [b_Table_scaled]
  walk_at "v"
  have ht : SmQ 600 t := ht
  have hx : Sm 600 x := hx
  have m1 : ∀ {y : Rat}, Sm 600 y → ∃ k, k < 3000 ∧ 0 < k ∧ Sm k y ∧ Sm k x := fun a => ⟨600, by decide, by decide, a, hx⟩
  exact ⟨m1 ht.1, m1 ht.2.1, m1 ht.2.2.1, m1 ht.2.2.2, hQ⟩
theorem ent_ok (G : Glob) : Ok G 1 0 b_Table_entries entT := by
  refine pT_ok ?_
  rintro t _ Q X hQ
  rw [run_eq]
  refine ⟨rfl, ?_⟩
  show wpSs G b_Table_entries [some (.imm, tb t)] _
  simp only [b_Table_entries]
  walk_at "v"
  exact hQ
theorem zero_ok (G : Glob) (h4 : G.cst 4 = fr 0) (h34 : G.fn 34 = makeT) : Ok G 0 0 b_Table_zero zeroT := by
  refine pT_ok ?_
  rintro _ _ Q X hQ
  rw [run_eq]
  refine ⟨rfl, ?_⟩
  show wpSs G b_Table_zero [] _
  simp only [b_Table_zero]
  simp only [wpSs, wpS, wpOs, wpE, resolve, Opd.get, argsOf, Opd.arg, argF, ownIx, nodupB, putOuts, h4, h34, makeE]
  refine ⟨_, rfl, _, rfl, _, rfl, _, rfl, _, rfl, True.intro, ?_⟩
  rw [makeE]
  exact ⟨True.intro, _, rfl, hQ⟩
theorem eqt_ok (G : Glob) : Ok G 2 0 b_Table___eq__ eqtT := by
  refine pT_ok ?_
  rintro ⟨⟨a, b, c, d⟩, ⟨a', b', c', d'⟩⟩ _ Q X hQ
  rw [run_eq]
  refine ⟨rfl, ?_⟩
  show wpSs G b_Table___eq__ [some (.imm, tb (a, b, c, d)), some (.imm, tb (a', b', c', d'))] _
  simp only [b_Table___eq__]
  have hq : Q (.imm, .bl (decide ((a, b, c, d) = (a', b', c', d')))) [(.imm, tb (a, b, c, d)), (.imm, tb (a', b', c', d'))] := hQ
  clear hQ
  have e : decide ((a, b, c, d) = (a', b', c', d')) = (decide (a = a') && (decide (b = b') && (decide (c = c') && decide (d = d')))) := by
    simp only [Prod.mk.injEq, Bool.decide_and]
  rw [e] at hq
  clear e
  by_cases h1 : a = a'
  · by_cases h2 : b = b'
    · by_cases h3 : c = c'
      · by_cases h4 : d = d'
        · subst h1 h2 h3 h4
          walk_at "v"
          simpa using hq
        · subst h1 h2 h3
          walk_at "v"
          simpa [h4] using hq
      · subst h1 h2
        walk_at "v"
        simpa [h3] using hq
    · subst h1
      walk_at "v"
      simpa [h2] using hq
  · walk_at "v"
    simpa [h1] using hq
--#nomacro
/-! ### kinds, their own numbers -/
inductive Kd where
  | sl | tu | mi | st | si | ev
  deriving DecidableEq
def Kd.wd : Kd → Str
  | .sl => "slanted"
  | .tu => "turned"
  | .mi => "mirrored"
  | .st => "stretched"
  | .si => "sized"
  | .ev => "even"
def kds : List Kd := [.sl, .tu, .mi, .st, .si, .ev]
abbrev wdD (k : Kd) : D := .str k.wd
def Kd.n : Kd → Nat
  | .sl => 4
  | .tu => 2
  | .mi => 2
  | .st => 2
  | .si => 1
  | .ev => 1
def Kd.free : Kd → Bool
  | .sl => true
  | .tu => true
  | .mi => true
  | _ => false
/-- the own numbers of a table of a kind -/
inductive Ow where
  | sl (a b c d : Rat)
  | tu (a b : Rat)
  | mi (a b : Rat)
  | st (a b : Rat)
  | si (a : Rat)
  | ev (a : Rat)
def Ow.kd : Ow → Kd
  | .sl .. => .sl
  | .tu .. => .tu
  | .mi .. => .mi
  | .st .. => .st
  | .si .. => .si
  | .ev .. => .ev
def Ow.nums : Ow → List D
  | .sl a b c d => [fr a, fr b, fr c, fr d]
  | .tu a b => [fr a, fr b]
  | .mi a b => [fr a, fr b]
  | .st a b => [fr a, fr b]
  | .si a => [fr a]
  | .ev a => [fr a]
def Ow.tab : Ow → Q4
  | .sl a b c d => (a, b, c, d)
  | .tu a b => (a, -b, b, a)
  | .mi a b => (a, b, b, -a)
  | .st a b => (a, 0, 0, b)
  | .si a => (a, 0, 0, a)
  | .ev a => (a, 0, 0, a)
def Ow.sm (k : Nat) : Ow → Prop
  | .sl a b c d => Sm k a ∧ Sm k b ∧ Sm k c ∧ Sm k d
  | .tu a b => Sm k a ∧ Sm k b
  | .mi a b => Sm k a ∧ Sm k b
  | .st a b => Sm k a ∧ Sm k b
  | .si a => Sm k a
  | .ev a => Sm k a
def rd : Kd → Q4 → Ow
  | .sl, t => .sl t.1 t.2.1 t.2.2.1 t.2.2.2
  | .tu, t => .tu t.1 t.2.2.1
  | .mi, t => .mi t.1 t.2.2.1
  | .st, t => .st t.1 t.2.2.2
  | .si, t => .si t.1
  | .ev, t => .ev t.1
theorem rd_kd (k : Kd) (t : Q4) : (rd k t).kd = k := by cases k <;> rfl
theorem rd_tab (o : Ow) : rd o.kd o.tab = o := by cases o <;> rfl
theorem rd_sm {n : Nat} {k : Kd} {t : Q4} (h : SmQ n t) : (rd k t).sm n := by
  obtain ⟨a, b, c, d⟩ := h
  cases k
  · exact ⟨a, b, c, d⟩
  · exact ⟨a, c⟩
  · exact ⟨a, c⟩
  · exact ⟨a, d⟩
  · exact a
  · exact a
theorem tab_sm {n : Nat} {o : Ow} (h : o.sm (n + 1)) : SmQ (n + 1) o.tab := by
  cases o
  · exact h
  · exact ⟨h.1, sm_neg h.2, h.2, h.1⟩
  · exact ⟨h.1, h.2, h.2, sm_neg h.1⟩
  · exact ⟨h.1, sm_zero, sm_zero, h.2⟩
  · exact ⟨h, sm_zero, sm_zero, h⟩
  · exact ⟨h, sm_zero, sm_zero, h⟩
theorem wd_inj {k l : Kd} (h : wdD k = wdD l) : k = l := by
  have e : k.wd = l.wd := D.str.inj h
  revert e
  cases k <;> cases l <;> first | (intro _; rfl) | (intro e; exact absurd e (by decide +kernel))
theorem nums_inj {o p : Ow} (h1 : o.kd = p.kd) (h2 : o.nums = p.nums) : o = p := by
  cases o <;> cases p <;> first
    | (cases h1; done)
    | (simp only [Ow.nums, List.cons.injEq, and_true] at h2
       simp only [Ow.sl.injEq, Ow.tu.injEq, Ow.mi.injEq, Ow.st.injEq, Ow.si.injEq, Ow.ev.injEq]
       first
         | exact ⟨fr_inj h2.1, fr_inj h2.2.1, fr_inj h2.2.2.1, fr_inj h2.2.2.2⟩
         | exact ⟨fr_inj h2.1, fr_inj h2.2⟩
         | exact fr_inj h2)
def ownD (k : Kd) (t : Q4) : Val := if (rd k t).tab = t then (.own, .lst (rd k t).nums) else (.imm, .non)
def ownI (k : Kd) (t : Q4) : D := if (rd k t).tab = t then .lst (rd k t).nums else .non
theorem lay_nums (n : Nat) (o : Ow) : lay (n + 2) (.lst o.nums) = true := by
  show o.nums.all (lay (n + 1)) = true
  cases o <;> simp [Ow.nums, la_fr]
theorem sz_fr (n : Nat) (x : Rat) : szB (n + 1) (fr x) = true := by cases n <;> rfl
theorem sz_nums (n : Nat) (o : Ow) : szB (n + 2) (.lst o.nums) = true := by
  cases o <;> (simp only [Ow.nums, szB, List.all_cons, List.all_nil, Bool.and_true, Bool.and_eq_true, decide_eq_true_eq]; refine ⟨by simp [line], ?_⟩; simp [sz_fr])
/-! words apart -/
theorem lay_s {n : Nat} {z : Str} (h : z.cps.all (· < 0x110000) = true) : lay n (.str z) = true := by cases n <;> exact h
theorem kq_sl_sl : (Kd.wd .sl == ("slanted" : Str)) = true := by decide +kernel
theorem kr_sl_sl : (("slanted" : Str) == Kd.wd .sl) = true := by decide +kernel
theorem kq_sl_tu : (Kd.wd .sl == ("turned" : Str)) = false := by decide +kernel
theorem kr_sl_tu : (("turned" : Str) == Kd.wd .sl) = false := by decide +kernel
theorem kq_sl_mi : (Kd.wd .sl == ("mirrored" : Str)) = false := by decide +kernel
theorem kr_sl_mi : (("mirrored" : Str) == Kd.wd .sl) = false := by decide +kernel
theorem kq_sl_st : (Kd.wd .sl == ("stretched" : Str)) = false := by decide +kernel
theorem kr_sl_st : (("stretched" : Str) == Kd.wd .sl) = false := by decide +kernel
theorem kq_sl_si : (Kd.wd .sl == ("sized" : Str)) = false := by decide +kernel
theorem kr_sl_si : (("sized" : Str) == Kd.wd .sl) = false := by decide +kernel
theorem kq_sl_ev : (Kd.wd .sl == ("even" : Str)) = false := by decide +kernel
theorem kr_sl_ev : (("even" : Str) == Kd.wd .sl) = false := by decide +kernel
theorem kq_tu_sl : (Kd.wd .tu == ("slanted" : Str)) = false := by decide +kernel
theorem kr_tu_sl : (("slanted" : Str) == Kd.wd .tu) = false := by decide +kernel
theorem kq_tu_tu : (Kd.wd .tu == ("turned" : Str)) = true := by decide +kernel
theorem kr_tu_tu : (("turned" : Str) == Kd.wd .tu) = true := by decide +kernel
theorem kq_tu_mi : (Kd.wd .tu == ("mirrored" : Str)) = false := by decide +kernel
theorem kr_tu_mi : (("mirrored" : Str) == Kd.wd .tu) = false := by decide +kernel
theorem kq_tu_st : (Kd.wd .tu == ("stretched" : Str)) = false := by decide +kernel
theorem kr_tu_st : (("stretched" : Str) == Kd.wd .tu) = false := by decide +kernel
theorem kq_tu_si : (Kd.wd .tu == ("sized" : Str)) = false := by decide +kernel
theorem kr_tu_si : (("sized" : Str) == Kd.wd .tu) = false := by decide +kernel
theorem kq_tu_ev : (Kd.wd .tu == ("even" : Str)) = false := by decide +kernel
theorem kr_tu_ev : (("even" : Str) == Kd.wd .tu) = false := by decide +kernel
theorem kq_mi_sl : (Kd.wd .mi == ("slanted" : Str)) = false := by decide +kernel
theorem kr_mi_sl : (("slanted" : Str) == Kd.wd .mi) = false := by decide +kernel
theorem kq_mi_tu : (Kd.wd .mi == ("turned" : Str)) = false := by decide +kernel
theorem kr_mi_tu : (("turned" : Str) == Kd.wd .mi) = false := by decide +kernel
theorem kq_mi_mi : (Kd.wd .mi == ("mirrored" : Str)) = true := by decide +kernel
theorem kr_mi_mi : (("mirrored" : Str) == Kd.wd .mi) = true := by decide +kernel
theorem kq_mi_st : (Kd.wd .mi == ("stretched" : Str)) = false := by decide +kernel
theorem kr_mi_st : (("stretched" : Str) == Kd.wd .mi) = false := by decide +kernel
theorem kq_mi_si : (Kd.wd .mi == ("sized" : Str)) = false := by decide +kernel
theorem kr_mi_si : (("sized" : Str) == Kd.wd .mi) = false := by decide +kernel
theorem kq_mi_ev : (Kd.wd .mi == ("even" : Str)) = false := by decide +kernel
theorem kr_mi_ev : (("even" : Str) == Kd.wd .mi) = false := by decide +kernel
theorem kq_st_sl : (Kd.wd .st == ("slanted" : Str)) = false := by decide +kernel
theorem kr_st_sl : (("slanted" : Str) == Kd.wd .st) = false := by decide +kernel
theorem kq_st_tu : (Kd.wd .st == ("turned" : Str)) = false := by decide +kernel
theorem kr_st_tu : (("turned" : Str) == Kd.wd .st) = false := by decide +kernel
theorem kq_st_mi : (Kd.wd .st == ("mirrored" : Str)) = false := by decide +kernel
theorem kr_st_mi : (("mirrored" : Str) == Kd.wd .st) = false := by decide +kernel
theorem kq_st_st : (Kd.wd .st == ("stretched" : Str)) = true := by decide +kernel
theorem kr_st_st : (("stretched" : Str) == Kd.wd .st) = true := by decide +kernel
theorem kq_st_si : (Kd.wd .st == ("sized" : Str)) = false := by decide +kernel
theorem kr_st_si : (("sized" : Str) == Kd.wd .st) = false := by decide +kernel
theorem kq_st_ev : (Kd.wd .st == ("even" : Str)) = false := by decide +kernel
theorem kr_st_ev : (("even" : Str) == Kd.wd .st) = false := by decide +kernel
theorem kq_si_sl : (Kd.wd .si == ("slanted" : Str)) = false := by decide +kernel
theorem kr_si_sl : (("slanted" : Str) == Kd.wd .si) = false := by decide +kernel
theorem kq_si_tu : (Kd.wd .si == ("turned" : Str)) = false := by decide +kernel
theorem kr_si_tu : (("turned" : Str) == Kd.wd .si) = false := by decide +kernel
theorem kq_si_mi : (Kd.wd .si == ("mirrored" : Str)) = false := by decide +kernel
theorem kr_si_mi : (("mirrored" : Str) == Kd.wd .si) = false := by decide +kernel
theorem kq_si_st : (Kd.wd .si == ("stretched" : Str)) = false := by decide +kernel
theorem kr_si_st : (("stretched" : Str) == Kd.wd .si) = false := by decide +kernel
theorem kq_si_si : (Kd.wd .si == ("sized" : Str)) = true := by decide +kernel
theorem kr_si_si : (("sized" : Str) == Kd.wd .si) = true := by decide +kernel
theorem kq_si_ev : (Kd.wd .si == ("even" : Str)) = false := by decide +kernel
theorem kr_si_ev : (("even" : Str) == Kd.wd .si) = false := by decide +kernel
theorem kq_ev_sl : (Kd.wd .ev == ("slanted" : Str)) = false := by decide +kernel
theorem kr_ev_sl : (("slanted" : Str) == Kd.wd .ev) = false := by decide +kernel
theorem kq_ev_tu : (Kd.wd .ev == ("turned" : Str)) = false := by decide +kernel
theorem kr_ev_tu : (("turned" : Str) == Kd.wd .ev) = false := by decide +kernel
theorem kq_ev_mi : (Kd.wd .ev == ("mirrored" : Str)) = false := by decide +kernel
theorem kr_ev_mi : (("mirrored" : Str) == Kd.wd .ev) = false := by decide +kernel
theorem kq_ev_st : (Kd.wd .ev == ("stretched" : Str)) = false := by decide +kernel
theorem kr_ev_st : (("stretched" : Str) == Kd.wd .ev) = false := by decide +kernel
theorem kq_ev_si : (Kd.wd .ev == ("sized" : Str)) = false := by decide +kernel
theorem kr_ev_si : (("sized" : Str) == Kd.wd .ev) = false := by decide +kernel
theorem kq_ev_ev : (Kd.wd .ev == ("even" : Str)) = true := by decide +kernel
theorem kr_ev_ev : (("even" : Str) == Kd.wd .ev) = true := by decide +kernel
theorem lk_sl {n : Nat} : lay n (.str "slanted") = true := lay_s (by decide +kernel)
theorem lk_tu {n : Nat} : lay n (.str "turned") = true := lay_s (by decide +kernel)
theorem lk_mi {n : Nat} : lay n (.str "mirrored") = true := lay_s (by decide +kernel)
theorem lk_st {n : Nat} : lay n (.str "stretched") = true := lay_s (by decide +kernel)
theorem lk_si {n : Nat} : lay n (.str "sized") = true := lay_s (by decide +kernel)
theorem lk_ev {n : Nat} : lay n (.str "even") = true := lay_s (by decide +kernel)
theorem la_wd {n : Nat} {k : Kd} : lay n (.str k.wd) = true := lay_s (by cases k <;> decide +kernel)
theorem la_t2 {n : Nat} {x y : D} (h1 : lay n x = true) (h2 : lay n y = true) : lay (n + 1) (.tup [x, y]) = true := by simp [lay, h1, h2]
theorem la_w2a : lay 60 (.tup [.str "sized", .str "even"]) = true := by decide +kernel
theorem la_w2b : lay 60 (.tup [.str "turned", .str "mirrored"]) = true := by decide +kernel
theorem am_1 {x : D} : atI [x] (-1) = some x := rfl
theorem am_2 {x y : D} : atI [x, y] (-1) = some y := rfl
theorem am_4 {x y z w : D} : atI [x, y, z, w] (-1) = some w := rfl
/-! ### promises -/
def kts : List D := [wdD .sl, wdD .tu, wdD .mi, wdD .st, wdD .si, wdD .ev]
def isK : D → Bool
  | .str z => kts.any fun y => eqD y (.str z)
  | _ => false
def isKT : Tr := pT (fun d : D => [d]) (fun d => ∀ z, d = .str z → lay 60 d = true) fun d => .bl (isK d)
def kfT : Tr := pT (fun k : Kd => [wdD k]) (fun _ => True) fun k => .bl k.free
def kcT : Tr := pT (fun k : Kd => [wdD k]) (fun _ => True) fun k => .int k.n
def wordsT : Tr := pT (fun _ : Unit => []) (fun _ => True) fun _ => .lst kts
def longT : Tr := pT (fun p : (Rat × Rat) × Rat => [.tup [fr p.1.1, fr p.1.2], fr p.2]) (fun p => Sm 1000 p.1.1 ∧ Sm 1000 p.1.2 ∧ Sm 1000 p.2) fun p => .tup [fr (p.1.1 * p.2), fr (p.1.2 * p.2)]
def filT : Tr := pT (fun o : Ow => [wdD o.kd, .lst o.nums]) (fun o => o.sm 2000) fun o => t4 o.tab
def madeT : Tr := pT (fun t : Q4 => [t4 t]) (fun _ => True) tb
def readT : Tr := pT (fun p : Kd × Q4 => [wdD p.1, t4 p.2]) (fun p => SmQ 2000 p.2) fun p => ownI p.1 p.2
def fitT : Tr := pT (fun p : Kd × Q4 => [wdD p.1, tb p.2]) (fun _ => True) fun p => .bl (decide ((rd p.1 p.2).tab = p.2))
def tabT : Tr := fun as Q _ => ∃ (o : Ow) (a : Val), as = [(.imm, wdD o.kd), a] ∧ (a = (.imm, .lst o.nums) ∨ a = (.par, .lst o.nums) ∨ a = (.imm, .tup o.nums)) ∧ Q (.imm, tb o.tab) as
def ownT : Tr := fun as Q _ => ∃ (k : Kd) (t : Q4), as = [(.imm, wdD k), (.imm, tb t)] ∧ Q (ownD k t) as
section
variable {Q : Val → List Val → Prop} {X : D → List Val → Prop} {x y u v : Rat} {t : Q4} {k : Kd} {o : Ow} {d : D}
theorem timesEm : fnT rTimes [(.imm, fr x), (.imm, .tup [.int (-1), .int 1])] Q X = ((∃ k, k < 3000 ∧ 0 < k ∧ Sm k x ∧ Sm k (-1)) ∧ Q (.imm, fr (-x)) [(.imm, fr x), (.imm, .tup [.int (-1), .int 1])]) := by
  have e := @timesE Q X x (-1)
  rw [show x * (-1) = -x by rw [Rat.mul_neg, Rat.mul_one]] at e
  exact e
theorem plusE1 : fnT rPlus [(.imm, fr x), (.imm, .tup [.int 1, .int 1])] Q X = ((∃ k, k < 3000 ∧ 0 < k ∧ Sm k x ∧ Sm k 1) ∧ Q (.imm, fr (x + 1)) [(.imm, fr x), (.imm, .tup [.int 1, .int 1])]) := @plusE Q X x 1
theorem isKE : isKT [(.imm, d)] Q X = ((∀ z, d = .str z → lay 60 d = true) ∧ Q (.imm, .bl (isK d)) [(.imm, d)]) := pT_eq (a := d) fun _ h => (List.cons.inj h).1
theorem kfE : kfT [(.imm, .str k.wd)] Q X = (True ∧ Q (.imm, .bl k.free) [(.imm, .str k.wd)]) := pT_eq (a := k) fun _ h => wd_inj (List.cons.inj h).1
theorem kcE : kcT [(.imm, .str k.wd)] Q X = (True ∧ Q (.imm, .int k.n) [(.imm, .str k.wd)]) := pT_eq (a := k) fun _ h => wd_inj (List.cons.inj h).1
theorem wordsE : wordsT [] Q X = (True ∧ Q (.imm, .lst kts) []) := pT_eq (a := ()) fun _ _ => rfl
theorem longE : longT [(.imm, .tup [fr u, fr v]), (.imm, fr x)] Q X = ((Sm 1000 u ∧ Sm 1000 v ∧ Sm 1000 x) ∧ Q (.imm, .tup [fr (u * x), fr (v * x)]) [(.imm, .tup [fr u, fr v]), (.imm, fr x)]) := pT_eq (a := ((u, v), x)) fun b h => by
  obtain ⟨⟨u', v'⟩, x'⟩ := b
  simp only [List.cons.injEq, D.tup.injEq, and_true] at h
  obtain ⟨⟨h1, h2⟩, h3⟩ := h
  rw [fr_inj h1, fr_inj h2, fr_inj h3]
theorem filE : filT [(.imm, .str o.kd.wd), (.imm, .lst o.nums)] Q X = (o.sm 2000 ∧ Q (.imm, t4 o.tab) [(.imm, .str o.kd.wd), (.imm, .lst o.nums)]) := pT_eq (a := o) fun b h => by
  simp only [List.cons.injEq, D.lst.injEq, and_true] at h
  exact nums_inj (wd_inj h.1) h.2
theorem madeE : madeT [(.imm, t4 t)] Q X = (True ∧ Q (.imm, tb t) [(.imm, t4 t)]) := pT_eq (a := t) fun _ h => t4_inj (List.cons.inj h).1
theorem readE2 : readT [(.imm, .str k.wd), (.imm, t4 t)] Q X = (SmQ 2000 t ∧ Q (.imm, ownI k t) [(.imm, .str k.wd), (.imm, t4 t)]) := pT_eq (a := (k, t)) fun b h => by
  obtain ⟨k', t'⟩ := b
  simp only [List.cons.injEq, and_true] at h
  rw [wd_inj h.1, t4_inj h.2]
theorem fitE : fitT [(.imm, .str k.wd), (.imm, tb t)] Q X = (True ∧ Q (.imm, .bl (decide ((rd k t).tab = t))) [(.imm, .str k.wd), (.imm, tb t)]) := pT_eq (a := (k, t)) fun b h => by
  obtain ⟨k', t'⟩ := b
  simp only [List.cons.injEq, and_true] at h
  rw [wd_inj h.1, tb_inj h.2]
theorem ownE : ownT [(.imm, .str k.wd), (.imm, tb t)] Q X = Q (ownD k t) [(.imm, .str k.wd), (.imm, tb t)] := by
  apply propext
  constructor
  · rintro ⟨k', t', e, q⟩
    simp only [List.cons.injEq, Prod.mk.injEq, true_and, and_true] at e
    have e1 := wd_inj e.1
    have e2 := tb_inj e.2
    subst e1 e2
    exact q
  · exact fun q => ⟨k, t, rfl, q⟩
theorem tab_any {a : Val} (h : a = (.imm, .lst o.nums) ∨ a = (.par, .lst o.nums) ∨ a = (.imm, .tup o.nums)) : tabT [(.imm, .str o.kd.wd), a] Q X = Q (.imm, tb o.tab) [(.imm, .str o.kd.wd), a] := by
  apply propext
  constructor
  · rintro ⟨o', a', e, h', q⟩
    simp only [List.cons.injEq, Prod.mk.injEq, true_and, and_true] at e
    obtain ⟨e1, rfl⟩ := e
    have e1 := wd_inj e1
    have e2 : o.nums = o'.nums := by
      rcases h with rfl | rfl | rfl <;> rcases h' with h' | h' | h' <;> first | (cases h'; done) | exact D.lst.inj (Prod.mk.inj h').2 | exact D.tup.inj (Prod.mk.inj h').2
    have := nums_inj e1 e2
    subst this
    exact q
  · exact fun q => ⟨o, a, rfl, h, q⟩
theorem tabE : tabT [(.imm, .str o.kd.wd), (.imm, .lst o.nums)] Q X = Q (.imm, tb o.tab) [(.imm, .str o.kd.wd), (.imm, .lst o.nums)] := tab_any (.inl rfl)
theorem tabP : tabT [(.imm, .str o.kd.wd), (.par, .lst o.nums)] Q X = Q (.imm, tb o.tab) [(.imm, .str o.kd.wd), (.par, .lst o.nums)] := tab_any (.inr (.inl rfl))
theorem tabTu : tabT [(.imm, .str o.kd.wd), (.imm, .tup o.nums)] Q X = Q (.imm, tb o.tab) [(.imm, .str o.kd.wd), (.imm, .tup o.nums)] := tab_any (.inr (.inr rfl))
end
theorem kts_mem {d : D} (h : d ∈ kts) : ∃ k, d = wdD k := by
  simp only [kts, List.mem_cons, List.not_mem_nil, or_false] at h
  rcases h with rfl | rfl | rfl | rfl | rfl | rfl <;> exact ⟨_, rfl⟩
end Lw
end Ev
set_option Elab.async false
set_option linter.all false
set_option autoImplicit false
set_option maxRecDepth 100000
set_option maxHeartbeats 1000000
namespace Ev
namespace Lw
open PySem PySem.Spec PyProof.Rows L2
local macro_rules | `(tactic| walk_at "v") => `(tactic| ((try refine hol ?_); try simp (config := { maxSteps := 2000000, implicitDefEqProofs := false }) only [↓pu_n, ↓av_n, pu_n, av_n, ↓at_0, ↓at_S, ↓set_0, ↓set_S, ↓lk_i, ↓lk_o, ↓lk_p, ↓lk_l, ↓re_nil, ↓re_xi, ↓re_xo, ↓re_v, ↓fl_i, ↓fl_o, ↓fl_p, ↓fl_l, ↓ar_nil, ↓ar_x, ↓ar_v, ↓bk_nil, ↓bk_x, ↓bk_i, ↓wr_S, ↓wr_0f, ↓wr_0o, ↓wr_0p, ↓bk_p, ↓bk_l, ↓as_0, ↓as_S, ↓as_vs, ↓as_c, ↓pu_c, ↓tr_b, ↓tr_i, ↓tr_n, ↓tr_l, ↓tr_t, ↓tr_s, ↓bl_b, ↓in_i, ↓vl_i, ↓vl_o, ↓vl_p, ↓vl_l, ↓im_i, ↓im_o, ↓im_p, ↓wi_nil, ↓wi_c, ↓sq_l, ↓sq_f, ↓sq_t, ↓zp_ll, ↓zp_tt, ↓en_l, ↓rg_1, ↓rg_2, ↓ch_s, ↓fm_s, ↓fm_i, ↓st_0, ↓st_1, ↓st_2, ↓st_3, ↓st_4, ↓ap_l, ↓rv_o, ↓rv_p, ↓rv_i, ↓rv_l, ↓oK_nil, ↓oK_nil0, ↓oK_i, ↓oK_p, ↓oK_l, ↓g_nx, ↓g_nil, ↓g_cons, ↓g_asg, ↓g_par, ↓g_setIdx, ↓g_append, ↓g_ret, ↓g_retV, ↓g_retN, ↓g_sife, ↓g_for, ↓g_ex, ↓g_pass, ↓g_brk, ↓g_cont, ↓e_var, ↓e_cst, ↓e_glo, ↓e_op, ↓e_call, ↓e_tup, ↓e_lst, ↓e_ife, ↓e_and, ↓e_or, ↓e_not, ↓turn_eq, ↓e_comp, ↓e_fmt, ↓e_imm, ↓f_nil, ↓f_cons, ↓s_nil, ↓s_v, ↓s_e, ↓s_n, ↓t_nil, ↓t_cons, ↓b_tt, ↓b_t, ↓b_look, ↓b_and, ↓b_or, ↓b_not, ↓i_seq, ↓i_range, ↓i_chars, ↓i_zip, ↓i_enum, ↓ix_l0, ↓ix_l1, ↓ix_l2, ↓ix_l3, ↓ix_l4, ↓ix_t0, ↓ix_t1, ↓ix_t2, ↓ix_t3, ↓o_add, ↓o_adds, ↓o_sub, ↓o_mul, ↓o_fdiv, ↓o_mod, ↓o_pow, ↓o_neg, ↓o_eq, ↓o_ne, ↓o_lt, ↓o_le, ↓o_gt, ↓o_ge, ↓o_isN, ↓o_notN, ↓o_lenl, ↓o_lent, ↓o_lenf, ↓o_lens, ↓o_abs, ↓o_toInt, ↓o_isi, ↓o_gcd, ↓o_toList, ↓o_addl, ↓o_addt, ↓q_slc11l, ↓q_slc10l, ↓q_slc01l, ↓q_slc00l, ↓q_slc11f, ↓q_slc10f, ↓q_slc01f, ↓q_slc00f, ↓q_slc11t, ↓q_slc10t, ↓q_slc01t, ↓q_slc00t, ↓q_toIntb, ↓q_toListf, ↓q_toListt, ↓q_toTuplel, ↓q_toTuplet, ↓q_slcS11, ↓q_slcS10, ↓q_slcS01, ↓q_rep, ↓q_toStr, ↓q_strip, ↓q_starts, ↓q_part, ↓q_max2, ↓q_min2, ↓q_in, ↓q_notin, ↓np_none, ↓np_imm, ↓np_own, ↓ix_f0, ↓ix_f1, ↓la_fr, ↓eq_fr, ↓fl_t0, ↓fl_t1, ↓fl_t2, ↓fl_t3, ↓ob_tb, ↓ty_tb, ↓ix_q0, ↓ix_q1, ↓ix_q2, ↓ix_q3, ↓List.any_cons, ↓List.any_nil, ↓minusE, ↓negE, ↓applE, ↓makeE, ↓addE, ↓subE, ↓negtE, ↓multE, ↓scalE, ↓entE, ↓zeroE, ↓eqtE, ↓kq_sl_sl, ↓kr_sl_sl, ↓kq_sl_tu, ↓kr_sl_tu, ↓kq_sl_mi, ↓kr_sl_mi, ↓kq_sl_st, ↓kr_sl_st, ↓kq_sl_si, ↓kr_sl_si, ↓kq_sl_ev, ↓kr_sl_ev, ↓kq_tu_sl, ↓kr_tu_sl, ↓kq_tu_tu, ↓kr_tu_tu, ↓kq_tu_mi, ↓kr_tu_mi, ↓kq_tu_st, ↓kr_tu_st, ↓kq_tu_si, ↓kr_tu_si, ↓kq_tu_ev, ↓kr_tu_ev, ↓kq_mi_sl, ↓kr_mi_sl, ↓kq_mi_tu, ↓kr_mi_tu, ↓kq_mi_mi, ↓kr_mi_mi, ↓kq_mi_st, ↓kr_mi_st, ↓kq_mi_si, ↓kr_mi_si, ↓kq_mi_ev, ↓kr_mi_ev, ↓kq_st_sl, ↓kr_st_sl, ↓kq_st_tu, ↓kr_st_tu, ↓kq_st_mi, ↓kr_st_mi, ↓kq_st_st, ↓kr_st_st, ↓kq_st_si, ↓kr_st_si, ↓kq_st_ev, ↓kr_st_ev, ↓kq_si_sl, ↓kr_si_sl, ↓kq_si_tu, ↓kr_si_tu, ↓kq_si_mi, ↓kr_si_mi, ↓kq_si_st, ↓kr_si_st, ↓kq_si_si, ↓kr_si_si, ↓kq_si_ev, ↓kr_si_ev, ↓kq_ev_sl, ↓kr_ev_sl, ↓kq_ev_tu, ↓kr_ev_tu, ↓kq_ev_mi, ↓kr_ev_mi, ↓kq_ev_st, ↓kr_ev_st, ↓kq_ev_si, ↓kr_ev_si, ↓kq_ev_ev, ↓kr_ev_ev, ↓lk_sl, ↓lk_tu, ↓lk_mi, ↓lk_st, ↓lk_si, ↓lk_ev, ↓la_wd, ↓la_w2a, ↓la_w2b, ↓am_1, ↓am_2, ↓am_4, ↓timesEm, ↓plusE1, ↓longE, ↓kfE, ↓kcE, ↓filE, ↓tabE, ↓tabP, ↓madeE, ↓readE2, ↓ownE, ↓fitE, ↓wordsE, ↓isKE, ↓tabTu, ↓e_meth, ↓ob_1, ↓ob_2a, ↓ob_2b, ↓g_setFld, ↓g_insert, ↓ins_l, ↓sf_o, ↓pf_n, ↓pf_c, ↓fd_c, ↓o_fldo, ↓o_flde, ↓q_int, ↓q_notint, ↓q_idxw, ↓e_pure, ↓cm_n, ↓cm_c, ↓cm_0, ↓e_take, ↓tk_o, ↓tk_i, ↓ix_t4, at_0, at_S, set_0, set_S, lk_i, lk_o, lk_p, lk_l, re_nil, re_xi, re_xo, re_v, fl_i, fl_o, fl_p, fl_l, ar_nil, ar_x, ar_v, bk_nil, bk_x, bk_i, wr_S, wr_0f, wr_0o, wr_0p, bk_p, bk_l, as_0, as_S, as_vs, as_c, pu_c, tr_b, tr_i, tr_n, tr_l, tr_t, tr_s, bl_b, in_i, vl_i, vl_o, vl_p, vl_l, im_i, im_o, im_p, wi_nil, wi_c, sq_l, sq_f, sq_t, zp_ll, zp_tt, en_l, rg_1, rg_2, ch_s, fm_s, fm_i, st_0, st_1, st_2, st_3, st_4, ap_l, rv_o, rv_p, rv_i, rv_l, oK_nil, oK_nil0, oK_i, oK_p, oK_l, g_nx, g_nil, g_cons, g_asg, g_par, g_setIdx, g_append, g_ret, g_retV, g_retN, g_sife, g_for, g_ex, g_pass, g_brk, g_cont, e_var, e_cst, e_glo, e_op, e_call, e_tup, e_lst, e_ife, e_and, e_or, e_not, turn_eq, e_comp, e_fmt, e_imm, f_nil, f_cons, s_nil, s_v, s_e, s_n, t_nil, t_cons, b_tt, b_t, b_look, b_and, b_or, b_not, i_seq, i_range, i_chars, i_zip, i_enum, ix_l0, ix_l1, ix_l2, ix_l3, ix_l4, ix_t0, ix_t1, ix_t2, ix_t3, o_add, o_adds, o_sub, o_mul, o_fdiv, o_mod, o_pow, o_neg, o_eq, o_ne, o_lt, o_le, o_gt, o_ge, o_isN, o_notN, o_lenl, o_lent, o_lenf, o_lens, o_abs, o_toInt, o_isi, o_gcd, o_toList, o_addl, o_addt, q_slc11l, q_slc10l, q_slc01l, q_slc00l, q_slc11f, q_slc10f, q_slc01f, q_slc00f, q_slc11t, q_slc10t, q_slc01t, q_slc00t, q_toIntb, q_toListf, q_toListt, q_toTuplel, q_toTuplet, q_slcS11, q_slcS10, q_slcS01, q_rep, q_toStr, q_strip, q_starts, q_part, q_max2, q_min2, q_in, q_notin, o_idxl, o_idxf, o_idxt, o_idxs, o_all, q_any, q_sum, q_toIntS, q_inS, st_n, Option.map_some, ex_sb, ex_sl, ex_some, ex_some2, ex_rg, ex_true, bl_ex, tr_bl, tr_int, tr_non, tr_lst, tr_tup, eq_bl, eq_int, eq_str, eq_non, la_bl, la_int, la_non, beq_self_eq_true, ou_nil, ou_imm, ou_par, ou_parl, ow_nil, ow_x, ow_v, oi_o, oi_p, oi_i, oi_l, nodupB, wb_nil, wb_c, wpi_n, wpi_i, wpi_o, r_at0, r_atS, r_put0, r_putS, List.contains_nil, List.contains_cons, List.reverse_cons, List.reverse_nil, List.nil_append, List.cons_append, List.set_cons_zero, List.set_cons_succ, true_and, and_true, if_true, if_false, Bool.false_eq_true, Bool.not_true, Bool.not_false, Bool.and_true, Bool.true_and, Bool.and_false, Bool.false_and, Bool.or_false, Bool.false_or, Bool.or_true, Bool.true_or, List.any_cons, List.any_nil, hasTy, ownF, reduceCtorEq, forP_nil, np_none, np_imm, np_own, a_0, a_1, a_2, a_3, a_4, a_5, a_6, a_7, i_0, i_1, i_2, i_3, i_4, i_5, i_6, i_7, List.map_cons, List.map_nil, imms, List.length_cons, List.length_nil, ix_f0, ix_f1, la_fr, eq_fr, fl_t0, fl_t1, fl_t2, fl_t3, ob_tb, ty_tb, ix_q0, ix_q1, ix_q2, ix_q3, List.any_cons, List.any_nil, minusE, negE, applE, makeE, addE, subE, negtE, multE, scalE, entE, zeroE, eqtE, kq_sl_sl, kr_sl_sl, kq_sl_tu, kr_sl_tu, kq_sl_mi, kr_sl_mi, kq_sl_st, kr_sl_st, kq_sl_si, kr_sl_si, kq_sl_ev, kr_sl_ev, kq_tu_sl, kr_tu_sl, kq_tu_tu, kr_tu_tu, kq_tu_mi, kr_tu_mi, kq_tu_st, kr_tu_st, kq_tu_si, kr_tu_si, kq_tu_ev, kr_tu_ev, kq_mi_sl, kr_mi_sl, kq_mi_tu, kr_mi_tu, kq_mi_mi, kr_mi_mi, kq_mi_st, kr_mi_st, kq_mi_si, kr_mi_si, kq_mi_ev, kr_mi_ev, kq_st_sl, kr_st_sl, kq_st_tu, kr_st_tu, kq_st_mi, kr_st_mi, kq_st_st, kr_st_st, kq_st_si, kr_st_si, kq_st_ev, kr_st_ev, kq_si_sl, kr_si_sl, kq_si_tu, kr_si_tu, kq_si_mi, kr_si_mi, kq_si_st, kr_si_st, kq_si_si, kr_si_si, kq_si_ev, kr_si_ev, kq_ev_sl, kr_ev_sl, kq_ev_tu, kr_ev_tu, kq_ev_mi, kr_ev_mi, kq_ev_st, kr_ev_st, kq_ev_si, kr_ev_si, kq_ev_ev, kr_ev_ev, lk_sl, lk_tu, lk_mi, lk_st, lk_si, lk_ev, la_wd, la_w2a, la_w2b, am_1, am_2, am_4, timesEm, plusE1, longE, kfE, kcE, filE, tabE, tabP, madeE, readE2, ownE, fitE, wordsE, isKE, tabTu, drawE, pickE, lowE, plusE, timesE, textE, readE, t_whole, t_isfr, isspE, t_common, e_meth, ob_1, ob_2a, ob_2b, g_setFld, g_insert, ins_l, sf_o, pf_n, pf_c, fd_c, o_fldo, o_flde, q_int, q_notint, q_idxw, e_pure, cm_n, cm_c, cm_0, e_take, tk_o, tk_i, ix_t4, Nat.reduceEqDiff, eq_self, flatD, fT0, fT1, fT2, fT3, fT4, bT0, bT1, bT2, *]))
local macro_rules | `(tactic| walk_at "c") => `(tactic| repeat (refine And.intro (by first | decide +kernel | omega | (simp only [line]; omega)) ?_))
local macro_rules | `(tactic| walk_at "s") => `(tactic| ((refine cutS fun Nx hNx => ?_); walk_at "v"))
local macro_rules | `(tactic| walk_at "n") => `(tactic| ((refine NxH.out (by assumption) _ ?_); (rw [g_nx]); (refine cutS fun Nx hNx => ?_); walk_at "v"))
local macro_rules | `(tactic| walk_at "m") => `(tactic| ((refine NxH.out (by assumption) _ ?_); walk_at "v"))
local macro_rules | `(tactic| walk_at "a") => `(tactic| ((refine cutA fun Nx hNx => ?_); walk_at "v"))
--#m3
theorem isKind_ok (G : Glob) (hc : G.cst 1 = some (.tup kts)) : Ok G 1 0 b_is_kind isKT := by
  refine pT_ok ?_
  rintro d hd Q X hQ
  rw [run_eq]
  refine ⟨rfl, ?_⟩
  show wpSs G b_is_kind [some (.imm, d)] _
  simp only [b_is_kind]
  have lk : lay 60 (.tup kts) = true := by decide +kernel
  cases d with
  | str z =>
    have hl := hd z rfl
    walk_at "v"
    exact hQ
  | _ =>
    walk_at "v"
    exact hQ
theorem free_ok (G : Glob) (hc : G.cst 2 = some (.tup [.str "slanted", .str "turned", .str "mirrored"])) : Ok G 1 0 b_is_free_kind kfT := by
  refine pT_ok ?_
  rintro k _ Q X hQ
  rw [run_eq]
  refine ⟨rfl, ?_⟩
  show wpSs G b_is_free_kind [some (.imm, .str k.wd)] _
  simp only [b_is_free_kind]
  have lk : lay 60 (.tup [.str "slanted", .str "turned", .str "mirrored"]) = true := by decide +kernel
  cases k <;> (walk_at "v"; exact hQ)
theorem count_ok (G : Glob) (hc : G.cst 3 = some (.dicw [(.str "slanted", .int 4), (.str "turned", .int 2), (.str "mirrored", .int 2), (.str "stretched", .int 2), (.str "sized", .int 1), (.str "even", .int 1)])) : Ok G 1 0 b_own_count kcT := by
  refine pT_ok ?_
  rintro k _ Q X hQ
  rw [run_eq]
  refine ⟨rfl, ?_⟩
  show wpSs G b_own_count [some (.imm, .str k.wd)] _
  simp only [b_own_count]
  have lk : dget [(.str "slanted", .int 4), (.str "turned", .int 2), (.str "mirrored", .int 2), (.str "stretched", .int 2), (.str "sized", .int 1), (.str "even", .int 1)] (.str k.wd) = some (.int k.n) := by cases k <;> kernel_rfl
  walk_at "v"
  exact ⟨_, lk, hQ⟩
theorem many_ok (G : Glob) : Ok G 1 0 b__law_many kcT := by
  refine pT_ok ?_
  rintro k _ Q X hQ
  rw [run_eq]
  refine ⟨rfl, ?_⟩
  show wpSs G b__law_many [some (.imm, .str k.wd)] _
  simp only [b__law_many]
  cases k <;> (walk_at "v"; exact hQ)
theorem words_ok (G : Glob) : Ok G 0 0 b__law_words wordsT := by
  refine pT_ok ?_
  rintro _ _ Q X hQ
  rw [run_eq]
  refine ⟨rfl, ?_⟩
  show ouK (imms []) [] (Q (.imm, .lst kts))
  exact ⟨_, rfl, hQ⟩
theorem den_facts {x y : Rat} {k : Nat} (hk : k < 3000) (hk0 : 0 < k) (sx : Sm k x) (sy : Sm k y) : MulOk x.num y.num ∧ MulOk x.num y.den ∧ MulOk y.num x.den ∧ MulOk (x.den : Int) y.den ∧ (x.den : Int) * y.den ≠ 0 ∧ ((x.den : Int) * y.den).natAbs.log2 < 8000 := by
  have nx := x.den_nz
  have ny := y.den_nz
  have e2 : ((x.den : Int) * y.den).natAbs = x.den * y.den := by rw [Int.natAbs_mul, Int.natAbs_natCast, Int.natAbs_natCast]
  have hd : ((x.den : Int) * y.den).natAbs.log2 < 8000 := by
    have : x.den * y.den < 2 ^ (k + k) := by
      rw [Nat.pow_add]
      exact Nat.mul_lt_mul'' sx.2 sy.2
    have := log_lt (by omega) this
    rw [e2]
    omega
  have hd0 : (x.den : Int) * y.den ≠ 0 := Int.mul_ne_zero (by omega) (by omega)
  exact ⟨mul_ok (k := k) (by omega) sx.1 sy.1 hk0, mul_ok (k := k) (by omega) sx.1 (by rw [Int.natAbs_natCast]; exact sy.2) hk0, mul_ok (k := k) (by omega) sy.1 (by rw [Int.natAbs_natCast]; exact sx.2) hk0, mul_ok (k := k) (by omega) (by rw [Int.natAbs_natCast]; exact sx.2) (by rw [Int.natAbs_natCast]; exact sy.2) hk0, hd0, hd⟩
theorem sum_ok (G : Glob) (h10 : G.fn 10 = fnT rLow) : Ok G 2 0 b__law_sum (fnT rPlus) := by
  rintro as Q X ⟨ds, r, rfl, ⟨x, y, k, rfl, k1, k0, sx, sy, rfl⟩, hQ⟩
  rw [run_eq]
  refine ⟨rfl, ?_⟩
  show wpSs G b__law_sum [some (.imm, fr x), some (.imm, fr y)] _
  simp only [b__law_sum]
  have e := add_eq x y
  have hQ : Q (.imm, fr (x + y)) [(.imm, fr x), (.imm, fr y)] := hQ
  obtain ⟨m0, m1, m2, m3, d0, d1⟩ := den_facts k1 k0 sx sy
  walk_at "v"
  exact d0
theorem prod_ok (G : Glob) (h10 : G.fn 10 = fnT rLow) : Ok G 2 0 b__law_product (fnT rTimes) := by
  rintro as Q X ⟨ds, r, rfl, ⟨x, y, k, rfl, k1, k0, sx, sy, rfl⟩, hQ⟩
  rw [run_eq]
  refine ⟨rfl, ?_⟩
  show wpSs G b__law_product [some (.imm, fr x), some (.imm, fr y)] _
  simp only [b__law_product]
  have e := mul_eq x y
  have hQ : Q (.imm, fr (x * y)) [(.imm, fr x), (.imm, fr y)] := hQ
  obtain ⟨m0, m1, m2, m3, d0, d1⟩ := den_facts k1 k0 sx sy
  walk_at "v"
  exact d0
theorem long_ok (G : Glob) (h40 : G.fn 40 = fnT rTimes) : Ok G 2 0 b__law_long longT := by
  refine pT_ok ?_
  rintro ⟨⟨u, v⟩, w⟩ ⟨hu, hv, hw⟩ Q X hQ
  rw [run_eq]
  refine ⟨rfl, ?_⟩
  show wpSs G b__law_long [some (.imm, .tup [fr u, fr v]), some (.imm, fr w)] _
  simp only [b__law_long]
  walk_at "v"
  exact ⟨⟨1000, by decide, by decide, hu, hw⟩, ⟨1000, by decide, by decide, hv, hw⟩, hQ⟩
abbrev Z0 : List D → Prop := fun ds => ds = []
theorem near_ok (G : Glob) (h12 : G.fn 12 = bT Z0 rSmall) : Ok G 1 0 b__law_near (bT Z0 fun _ r => ∃ x y : Rat, r = .tup [fr x, fr y] ∧ Sm 21 x ∧ Sm 21 y) := by
  refine bT_ok ?_
  rintro bag ds hb rfl Q X hQ
  rw [run_eq]
  refine ⟨rfl, ?_⟩
  show wpSs G b__law_near [some (.par, bag)] _
  simp only [b__law_near]
  walk_at "v"
  rintro _ bag1 ⟨x, rfl, hx⟩ hb1
  walk_at "v"
  rintro _ bag2 ⟨y, rfl, hy⟩ hb2
  walk_at "v"
  exact hQ _ _ ⟨x, y, rfl, hx, hy⟩ hb2
theorem ltable_ok (G : Glob) (h5 : G.fn 5 = drawT) (h12 : G.fn 12 = bT Z0 rSmall) (h32 : G.fn 32 = bT Z0 rSmall) (h41 : G.fn 41 = longT) (h42 : G.fn 42 = bT Z0 fun _ r => ∃ x y : Rat, r = .tup [fr x, fr y] ∧ Sm 21 x ∧ Sm 21 y) : Ok G 1 4 b__law_table (bT Z0 fun _ r => ∃ t : Q4, r = t4 t ∧ SmQ 42 t) := by
  refine bT_ok ?_
  rintro bag ds hb rfl Q X hQ
  rw [run_eq]
  refine ⟨rfl, ?_⟩
  show wpSs G b__law_table [some (.par, bag), none, none, none, none] _
  simp only [b__law_table]
  have up : ∀ {x : Rat}, Sm 21 x → Sm 42 x := fun h => sm_mono h (by decide)
  have q : ∀ {x y z w : Rat} {bag : D}, Bag bag → Sm 42 x → Sm 42 y → Sm 42 z → Sm 42 w → Q (.imm, .tup [fr x, fr y, fr z, fr w]) [(.par, bag)] := fun hb a b c d => hQ _ _ ⟨(_, _, _, _), rfl, a, b, c, d⟩ hb
  clear hQ
  replace q := Hid.mk @q
  walk_at "v"
  refine ⟨by decide, by decide, fun w bag1 hb1 w0 w1 => ?_⟩
  clear hb
  by_cases c0 : w = 0
  · subst c0
    walk_at "v"
    exact q.out hb1 (x := 0) (y := 0) (z := 0) (w := 0) sm_zero sm_zero sm_zero sm_zero
  have c0' : (w == 0) = false := by simpa using c0
  by_cases c3 : w < 3
  · have c3' : decide (w < 3) = true := by simpa using c3
    walk_at "v"
    rintro _ bag2 ⟨x, y, rfl, hx, hy⟩ hb2
    clear hb1
    walk_at "v"
    rintro _ bag3 ⟨v, rfl, hv⟩ hb3
    clear hb2
    walk_at "v"
    refine ⟨⟨sm_mono hx (by decide), sm_mono hy (by decide), sm_mono hv (by decide)⟩, ?_⟩
    have m1 : Sm 42 (x * v) := sm_mul hx hv
    have m2 : Sm 42 (y * v) := sm_mul hy hv
    by_cases c1 : w = 1
    · subst c1
      walk_at "v"
      exact q.out hb3 (up hx) (up hy) m1 m2
    · have c1' : (w == 1) = false := by simpa using c1
      walk_at "v"
      exact q.out hb3 m1 (up hx) m2 (up hy)
  have c3' : decide (w < 3) = false := by simpa using c3
  by_cases c5 : w < 5
  · have c5' : decide (w < 5) = true := by simpa using c5
    walk_at "v"
    rintro _ bag2 ⟨x, rfl, hx⟩ hb2
    clear hb1
    walk_at "v"
    rintro _ bag3 ⟨y, rfl, hy⟩ hb3
    clear hb2
    walk_at "v"
    rintro _ bag4 ⟨z, rfl, hz⟩ hb4
    clear hb3
    walk_at "v"
    rintro _ bag5 ⟨v, rfl, hv⟩ hb5
    clear hb4
    walk_at "v"
    exact q.out hb5 (up hx) (up hy) (up hz) (up hv)
  · have c5' : decide (w < 5) = false := by simpa using c5
    walk_at "v"
    rintro _ bag2 ⟨x, rfl, hx⟩ hb2
    clear hb1
    walk_at "v"
    rintro _ bag3 ⟨y, rfl, hy⟩ hb3
    clear hb2
    walk_at "v"
    rintro _ bag4 ⟨z, rfl, hz⟩ hb4
    clear hb3
    walk_at "v"
    rintro _ bag5 ⟨v, rfl, hv⟩ hb5
    clear hb4
    walk_at "v"
    exact q.out hb5 (up hx) (up hy) (up hz) (up hv)
theorem made_ok (G : Glob) (h34 : G.fn 34 = makeT) : Ok G 1 0 b__law_made madeT := by
  refine pT_ok ?_
  rintro t _ Q X hQ
  rw [run_eq]
  refine ⟨rfl, ?_⟩
  show wpSs G b__law_made [some (.imm, t4 t)] _
  simp only [b__law_made]
  walk_at "v"
  exact hQ
theorem filled_ok (G : Glob) (h40 : G.fn 40 = fnT rTimes) : Ok G 2 3 b__law_filled filT := by
  refine pT_ok ?_
  rintro o ho Q X hQ
  rw [run_eq]
  refine ⟨rfl, ?_⟩
  show wpSs G b__law_filled [some (.imm, .str o.kd.wd), some (.imm, .lst o.nums), none, none, none] _
  simp only [b__law_filled]
  have sm1 : Sm 2000 (-1) := sm_neg sm_one
  cases o with
  | sl a b c d =>
    simp only [Ow.kd, Ow.nums, Ow.tab, t4] at hQ ⊢
    walk_at "v"
    exact hQ
  | tu a b =>
    simp only [Ow.kd, Ow.nums, Ow.tab, t4] at hQ ⊢
    walk_at "v"
    exact ⟨⟨2000, by decide, by decide, ho.2, sm1⟩, hQ⟩
  | mi a b =>
    simp only [Ow.kd, Ow.nums, Ow.tab, t4] at hQ ⊢
    walk_at "v"
    exact ⟨⟨2000, by decide, by decide, ho.1, sm1⟩, hQ⟩
  | st a b =>
    simp only [Ow.kd, Ow.nums, Ow.tab, t4] at hQ ⊢
    walk_at "v"
    exact hQ
  | si a =>
    simp only [Ow.kd, Ow.nums, Ow.tab, t4] at hQ ⊢
    walk_at "v"
    exact hQ
  | ev a =>
    simp only [Ow.kd, Ow.nums, Ow.tab, t4] at hQ ⊢
    walk_at "v"
    exact hQ
--#m3
theorem table_of_ok (G : Glob) (h4 : G.cst 4 = some (fr 0)) (h34 : G.fn 34 = makeT) (h35 : G.fn 35 = negT) : Ok G 2 1 b_table_of tabT := by
  rintro as Q X ⟨o, a, rfl, ha, hQ⟩
  rw [run_eq]
  refine ⟨rfl, ?_⟩
  show wpSs G b_table_of [some (.imm, .str o.kd.wd), some a, none] _
  simp only [b_table_of]
  rcases ha with rfl | rfl | rfl
  · cases o <;> (simp only [Ow.kd, Ow.nums, Ow.tab] at hQ ⊢; walk_at "v"; try exact hQ)
  · cases o <;> (simp only [Ow.kd, Ow.nums, Ow.tab] at hQ ⊢; walk_at "v"; try exact hQ)
  · cases o <;> (simp only [Ow.kd, Ow.nums, Ow.tab] at hQ ⊢; walk_at "v"; try exact hQ)
theorem own_ok (G : Glob) (h36 : G.fn 36 = eqtT) (h37 : G.fn 37 = tabT) (h38 : G.fn 38 = entT) : Ok G 2 5 b_own_numbers ownT := by
  rintro as Q X ⟨k, t, rfl, hQ⟩
  rw [run_eq]
  refine ⟨rfl, ?_⟩
  show wpSs G b_own_numbers [some (.imm, .str k.wd), some (.imm, tb t), none, none, none, none, none] _
  simp only [b_own_numbers]
  have row := fun Q X => @tabP Q X (rd k t)
  rw [rd_kd] at row
  have at4 : ∀ is ρ k, asgTg (.vs is) (.imm, t4 t) ρ k = asgTg (.vs is) (.imm, .tup [fr t.1, fr t.2.1, fr t.2.2.1, fr t.2.2.2]) ρ k := fun _ _ _ => rfl
  unfold ownD at hQ
  by_cases hk : (rd k t).tab = t
  · have hk' : ∀ i : Decidable ((rd k t).tab = t), @decide ((rd k t).tab = t) i = true := fun _ => by simpa using hk
    rw [if_pos hk] at hQ
    cases k <;> (simp only [rd, Ow.nums, Ow.tab] at hQ row hk' ⊢; walk_at "v"; try exact hQ)
  · have hk' : ∀ i : Decidable ((rd k t).tab = t), @decide ((rd k t).tab = t) i = false := fun _ => by simpa using hk
    rw [if_neg hk] at hQ
    cases k <;> (simp only [rd, Ow.nums, Ow.tab] at hQ row hk' ⊢; walk_at "v"; try exact hQ)
theorem fits_ok (G : Glob) (h39 : G.fn 39 = ownT) : Ok G 2 0 b_fits fitT := by
  refine pT_ok ?_
  rintro ⟨k, t⟩ _ Q X hQ
  rw [run_eq]
  refine ⟨rfl, ?_⟩
  show wpSs G b_fits [some (.imm, .str k.wd), some (.imm, tb t)] _
  simp only [b_fits]
  have hQ : Q (.imm, .bl (decide ((rd k t).tab = t))) [(.imm, .str k.wd), (.imm, tb t)] := hQ
  by_cases hk : (rd k t).tab = t
  · have e : ownD k t = (.own, .lst (rd k t).nums) := if_pos hk
    have hk' : decide ((rd k t).tab = t) = true := by simpa using hk
    rw [hk'] at hQ
    walk_at "v"
  · have e : ownD k t = (.imm, .non) := if_neg hk
    have hk' : decide ((rd k t).tab = t) = false := by simpa using hk
    rw [hk'] at hQ
    walk_at "v"
theorem eq_t4 {t s : Q4} : eqD (t4 t) (t4 s) = decide (t = s) := by
  obtain ⟨a, b, c, d⟩ := t
  obtain ⟨a', b', c', d'⟩ := s
  show (eqD (fr a) (fr a') && (eqD (fr b) (fr b') && (eqD (fr c) (fr c') && (eqD (fr d) (fr d') && true)))) = _
  simp only [eq_fr, Prod.mk.injEq, Bool.decide_and, Bool.and_true]
theorem la_t4 {n : Nat} {t : Q4} : lay (n + 2) (t4 t) = true := by
  show (List.all [fr t.1, fr t.2.1, fr t.2.2.1, fr t.2.2.2] (lay (n + 1))) = true
  simp [la_fr]
theorem sz_t4 {n : Nat} {t : Q4} : szB (n + 2) (t4 t) = true := by
  show (decide ((List.length [fr t.1, fr t.2.1, fr t.2.2.1, fr t.2.2.2]) ≤ 100000) && List.all [fr t.1, fr t.2.1, fr t.2.2.1, fr t.2.2.2] (szB (n + 1))) = true
  simp [sz_fr]
theorem read_off_ok (G : Glob) (h43 : G.fn 43 = filT) (h44 : G.fn 44 = kcT) : Ok G 2 1 b__law_read_off readT := by
  refine pT_ok ?_
  rintro ⟨k, t⟩ ht Q X hQ
  rw [run_eq]
  refine ⟨rfl, ?_⟩
  show wpSs G b__law_read_off [some (.imm, .str k.wd), some (.imm, t4 t), none] _
  simp only [b__law_read_off]
  have hQ : Q (.imm, ownI k t) [(.imm, .str k.wd), (.imm, t4 t)] := hQ
  have row := fun Q X => @filE Q X (rd k t)
  have hs : (rd k t).sm 2000 := rd_sm ht
  rw [rd_kd] at row
  have et := @eq_t4
  have lt := @la_t4
  have tl : ∀ P, opP .toList [t4 t] P = P (.own, .lst [fr t.1, fr t.2.1, fr t.2.2.1, fr t.2.2.2]) := fun _ => rfl
  have cu4 : ∀ a b c d : D, cut [a, b, c, d] none (some (Kd.sl.n : Int)) = [a, b, c, d] := fun _ _ _ _ => rfl
  have cu : ∀ a b : D, cut [a, b] none (some (Kd.tu.n : Int)) = [a, b] ∧ cut [a, b] none (some (Kd.mi.n : Int)) = [a, b] ∧ cut [a, b] none (some (Kd.st.n : Int)) = [a, b] ∧ cut [a, b] none (some (Kd.si.n : Int)) = [a] ∧ cut [a, b] none (some (Kd.ev.n : Int)) = [a] := fun _ _ => ⟨rfl, rfl, rfl, rfl, rfl⟩
  unfold ownI at hQ
  by_cases hk : (rd k t).tab = t
  · have hk' : ∀ i : Decidable ((rd k t).tab = t), @decide ((rd k t).tab = t) i = true := fun _ => by simpa using hk
    rw [if_pos hk] at hQ
    cases k <;> (simp only [rd, Ow.nums, Ow.tab] at hQ row hk' hs ⊢; walk_at "v"; first | done | exact hQ | exact ⟨hs, hQ⟩ | trace_state)
  · have hk' : ∀ i : Decidable ((rd k t).tab = t), @decide ((rd k t).tab = t) i = false := fun _ => by simpa using hk
    rw [if_neg hk] at hQ
    cases k <;> (simp only [rd, Ow.nums, Ow.tab] at hQ row hk' hs ⊢; walk_at "v"; first | done | exact hQ | exact ⟨hs, hQ⟩ | trace_state)
--#nomacro
/-! ### promises, by names too -/
def tabS : Tr := fun as Q _ => ∃ o : Ow, as = [(.imm, .tup o.nums), (.imm, wdD o.kd)] ∧ Q (.imm, tb o.tab) as
def ownS : Tr := fun as Q _ => ∃ (k : Kd) (t : Q4), as = [(.imm, tb t), (.imm, wdD k)] ∧ Q (ownD k t) as
def fitS : Tr := pT (fun p : Kd × Q4 => [tb p.2, wdD p.1]) (fun _ => True) fun p => .bl (decide ((rd p.1 p.2).tab = p.2))
def numT : Tr := pT (fun o : Ow => [wdD o.kd, .lst o.nums]) (fun o => o.sm 2000) fun _ => .bl true
def judT : Tr := pT (fun t : Q4 => [t4 t]) (fun t => SmQ 2000 t) fun _ => .bl true
def bentT : Tr := bT (fun ds => ∃ t n, ds = [t4 t] ∧ SmQ n t ∧ 0 < n ∧ n < 500) fun ds r => ∀ t n, ds = [t4 t] → SmQ n t → 0 < n → ∃ s, r = t4 s ∧ SmQ (n + 22) s
section
variable {Q : Val → List Val → Prop} {X : D → List Val → Prop} {x y u v : Rat} {t : Q4} {k : Kd} {o : Ow} {d : D}
theorem tabSE : tabS [(.imm, .tup o.nums), (.imm, .str o.kd.wd)] Q X = Q (.imm, tb o.tab) [(.imm, .tup o.nums), (.imm, .str o.kd.wd)] := by
  apply propext
  constructor
  · rintro ⟨o', e, q⟩
    simp only [List.cons.injEq, Prod.mk.injEq, true_and, and_true] at e
    have := nums_inj (wd_inj e.2) (D.tup.inj e.1)
    subst this
    exact q
  · exact fun q => ⟨o, rfl, q⟩
theorem ownSE : ownS [(.imm, tb t), (.imm, .str k.wd)] Q X = Q (ownD k t) [(.imm, tb t), (.imm, .str k.wd)] := by
  apply propext
  constructor
  · rintro ⟨k', t', e, q⟩
    simp only [List.cons.injEq, Prod.mk.injEq, true_and, and_true] at e
    have e1 := wd_inj e.2
    have e2 := tb_inj e.1
    subst e1 e2
    exact q
  · exact fun q => ⟨k, t, rfl, q⟩
theorem fitSE : fitS [(.imm, tb t), (.imm, .str k.wd)] Q X = (True ∧ Q (.imm, .bl (decide ((rd k t).tab = t))) [(.imm, tb t), (.imm, .str k.wd)]) := pT_eq (a := (k, t)) fun b h => by
  obtain ⟨k', t'⟩ := b
  simp only [List.cons.injEq, and_true] at h
  rw [wd_inj h.2, tb_inj h.1]
theorem numE : numT [(.imm, .str o.kd.wd), (.imm, .lst o.nums)] Q X = (o.sm 2000 ∧ Q (.imm, .bl true) [(.imm, .str o.kd.wd), (.imm, .lst o.nums)]) := pT_eq (a := o) fun b h => by
  simp only [List.cons.injEq, D.lst.injEq, and_true] at h
  exact nums_inj (wd_inj h.1) h.2
theorem judE : judT [(.imm, t4 t)] Q X = (SmQ 2000 t ∧ Q (.imm, .bl true) [(.imm, t4 t)]) := pT_eq (a := t) fun _ h => t4_inj (List.cons.inj h).1
end
/-- a comprehension over what stands behind -/
theorem forP_mapa {α : Type} {ρ : Rho} {body : D → List D × Rho → (List D × Rho → Prop) → Prop} {nx : List D × Rho → Prop} (f g : α → D) : ∀ {l : List α} (acc : List D), (∀ a ∈ l, ∀ (acc : List D) (K : List D × Rho → Prop), K (acc ++ [g a], ρ) → body (f a) (acc, ρ) K) → nx (acc ++ l.map g, ρ) → forP body nx (l.map f) (acc, ρ)
  | [], acc, _, h => by
    show nx (acc, ρ)
    simpa using h
  | d :: ds, acc, hb, h => by
    refine hb d (List.mem_cons_self ..) acc _ ?_
    exact forP_mapa f g (l := ds) (acc ++ [g d]) (fun e he => hb e (List.mem_cons_of_mem _ he)) (by simpa using h)
theorem own_tab (o : Ow) : ownD o.kd o.tab = (.own, .lst o.nums) := by
  unfold ownD
  rw [rd_tab, if_pos rfl]
theorem nums_len (o : Ow) : o.nums.length < 10 := by cases o <;> simp [Ow.nums]
theorem nums_cons (o : Ow) : ∃ x l, o.nums = fr x :: l := by cases o <;> exact ⟨_, _, rfl⟩
theorem sm_up {n m : Nat} {o : Ow} (h : o.sm n) (le : n ≤ m) : o.sm m := by
  cases o <;> first | exact ⟨sm_mono h.1 le, sm_mono h.2.1 le, sm_mono h.2.2.1 le, sm_mono h.2.2.2 le⟩ | exact ⟨sm_mono h.1 le, sm_mono h.2 le⟩ | exact sm_mono h le
/-- numbers of a kind's count -/
theorem nums_of (k : Kd) (l : List D) (n : Nat) (hl : l.length = k.n) (h : ∀ d ∈ l, ∃ x, d = fr x ∧ Sm n x) : ∃ o : Ow, o.kd = k ∧ o.nums = l ∧ o.sm n := by
  cases k with
  | sl =>
    match l, hl, h with
    | [a, b, c, d], _, h =>
      obtain ⟨x, rfl, hx⟩ := h a (by simp)
      obtain ⟨y, rfl, hy⟩ := h b (by simp)
      obtain ⟨z, rfl, hz⟩ := h c (by simp)
      obtain ⟨w, rfl, hw⟩ := h d (by simp)
      exact ⟨.sl x y z w, rfl, rfl, hx, hy, hz, hw⟩
  | tu =>
    match l, hl, h with
    | [a, b], _, h =>
      obtain ⟨x, rfl, hx⟩ := h a (by simp)
      obtain ⟨y, rfl, hy⟩ := h b (by simp)
      exact ⟨.tu x y, rfl, rfl, hx, hy⟩
  | mi =>
    match l, hl, h with
    | [a, b], _, h =>
      obtain ⟨x, rfl, hx⟩ := h a (by simp)
      obtain ⟨y, rfl, hy⟩ := h b (by simp)
      exact ⟨.mi x y, rfl, rfl, hx, hy⟩
  | st =>
    match l, hl, h with
    | [a, b], _, h =>
      obtain ⟨x, rfl, hx⟩ := h a (by simp)
      obtain ⟨y, rfl, hy⟩ := h b (by simp)
      exact ⟨.st x y, rfl, rfl, hx, hy⟩
  | si =>
    match l, hl, h with
    | [a], _, h =>
      obtain ⟨x, rfl, hx⟩ := h a (by simp)
      exact ⟨.si x, rfl, rfl, hx⟩
  | ev =>
    match l, hl, h with
    | [a], _, h =>
      obtain ⟨x, rfl, hx⟩ := h a (by simp)
      exact ⟨.ev x, rfl, rfl, hx⟩
/-! pairs of numbers -/
def prs : Ow → Ow → List (Rat × Rat)
  | .sl a b c d, .sl e f g h => [(a, e), (b, f), (c, g), (d, h)]
  | .tu a b, .tu e f => [(a, e), (b, f)]
  | .mi a b, .mi e f => [(a, e), (b, f)]
  | .st a b, .st e f => [(a, e), (b, f)]
  | .si a, .si e => [(a, e)]
  | .ev a, .ev e => [(a, e)]
  | _, _ => []
def addQ (t s : Q4) : Q4 := (t.1 + s.1, t.2.1 + s.2.1, t.2.2.1 + s.2.2.1, t.2.2.2 + s.2.2.2)
def subQ (t s : Q4) : Q4 := (t.1 - s.1, t.2.1 - s.2.1, t.2.2.1 - s.2.2.1, t.2.2.2 - s.2.2.2)
def scQ (t : Q4) (x : Rat) : Q4 := (t.1 * x, t.2.1 * x, t.2.2.1 * x, t.2.2.2 * x)
def ngQ (t : Q4) : Q4 := (-t.1, -t.2.1, -t.2.2.1, -t.2.2.2)
theorem neg_sub_neg' (a b : Rat) : -(a - b) = -a - -b := by
  rw [Rat.sub_eq_add_neg, Rat.sub_eq_add_neg, Rat.neg_add]
theorem sub_z : (0 : Rat) - 0 = 0 := by rw [Rat.sub_eq_add_neg, Rat.zero_add]; rfl
theorem pairs {o p : Ow} (h : o.kd = p.kd) : zipD o.nums p.nums = (prs o p).map (fun q => .tup [fr q.1, fr q.2]) ∧ (rd o.kd (addQ o.tab p.tab)).tab = addQ o.tab p.tab ∧ (rd o.kd (addQ o.tab p.tab)).nums = (prs o p).map (fun q => fr (q.1 + q.2))
    ∧ (rd o.kd (subQ o.tab p.tab)).tab = subQ o.tab p.tab ∧ (∀ n, o.sm n → p.sm n → ∀ q ∈ prs o p, Sm n q.1 ∧ Sm n q.2) := by
  cases o <;> cases p <;> first
    | (cases h; done)
    | (refine ⟨rfl, ?_, rfl, ?_, ?_⟩
       · simp only [Ow.kd, Ow.tab, addQ, rd, Rat.neg_add, Rat.add_zero]
       · simp only [Ow.kd, Ow.tab, subQ, rd, neg_sub_neg', sub_z]
       · intro n ho hp q hq
         simp only [prs, List.mem_cons, List.not_mem_nil, or_false] at hq
         first
           | (rcases hq with rfl | rfl | rfl | rfl
              · exact ⟨ho.1, hp.1⟩
              · exact ⟨ho.2.1, hp.2.1⟩
              · exact ⟨ho.2.2.1, hp.2.2.1⟩
              · exact ⟨ho.2.2.2, hp.2.2.2⟩)
           | (rcases hq with rfl | rfl
              · exact ⟨ho.1, hp.1⟩
              · exact ⟨ho.2, hp.2⟩)
           | (subst hq
              exact ⟨ho, hp⟩))
theorem scaled_fit (o : Ow) (x : Rat) : (rd o.kd (scQ o.tab x)).tab = scQ o.tab x := by
  cases o <;> simp only [Ow.kd, Ow.tab, scQ, rd, Rat.neg_mul, Rat.zero_mul]
theorem neg_fit (o : Ow) : (rd o.kd (ngQ o.tab)).tab = ngQ o.tab := by
  cases o <;> simp only [Ow.kd, Ow.tab, ngQ, rd, Rat.neg_zero]
theorem zero_fit (k : Kd) : (rd k (0, 0, 0, 0)).tab = (0, 0, 0, 0) := by
  cases k <;> simp only [Ow.tab, rd, Rat.neg_zero]
end Lw
end Ev
set_option Elab.async false
set_option linter.all false
set_option autoImplicit false
set_option maxRecDepth 100000
set_option maxHeartbeats 1000000
namespace Ev
namespace Lw
open PySem PySem.Spec PyProof.Rows L2
local macro_rules | `(tactic| walk_at "v") => `(tactic| ((try refine hol ?_); try simp (config := { maxSteps := 2000000, implicitDefEqProofs := false }) only [↓pu_n, ↓av_n, pu_n, av_n, ↓at_0, ↓at_S, ↓set_0, ↓set_S, ↓lk_i, ↓lk_o, ↓lk_p, ↓lk_l, ↓re_nil, ↓re_xi, ↓re_xo, ↓re_v, ↓fl_i, ↓fl_o, ↓fl_p, ↓fl_l, ↓ar_nil, ↓ar_x, ↓ar_v, ↓bk_nil, ↓bk_x, ↓bk_i, ↓wr_S, ↓wr_0f, ↓wr_0o, ↓wr_0p, ↓bk_p, ↓bk_l, ↓as_0, ↓as_S, ↓as_vs, ↓as_c, ↓pu_c, ↓tr_b, ↓tr_i, ↓tr_n, ↓tr_l, ↓tr_t, ↓tr_s, ↓bl_b, ↓in_i, ↓vl_i, ↓vl_o, ↓vl_p, ↓vl_l, ↓im_i, ↓im_o, ↓im_p, ↓wi_nil, ↓wi_c, ↓sq_l, ↓sq_f, ↓sq_t, ↓zp_ll, ↓zp_tt, ↓en_l, ↓rg_1, ↓rg_2, ↓ch_s, ↓fm_s, ↓fm_i, ↓st_0, ↓st_1, ↓st_2, ↓st_3, ↓st_4, ↓ap_l, ↓rv_o, ↓rv_p, ↓rv_i, ↓rv_l, ↓oK_nil, ↓oK_nil0, ↓oK_i, ↓oK_p, ↓oK_l, ↓g_nx, ↓g_nil, ↓g_cons, ↓g_asg, ↓g_par, ↓g_setIdx, ↓g_append, ↓g_ret, ↓g_retV, ↓g_retN, ↓g_sife, ↓g_for, ↓g_ex, ↓g_pass, ↓g_brk, ↓g_cont, ↓e_var, ↓e_cst, ↓e_glo, ↓e_op, ↓e_call, ↓e_tup, ↓e_lst, ↓e_ife, ↓e_and, ↓e_or, ↓e_not, ↓turn_eq, ↓e_comp, ↓e_fmt, ↓e_imm, ↓f_nil, ↓f_cons, ↓s_nil, ↓s_v, ↓s_e, ↓s_n, ↓t_nil, ↓t_cons, ↓b_tt, ↓b_t, ↓b_look, ↓b_and, ↓b_or, ↓b_not, ↓i_seq, ↓i_range, ↓i_chars, ↓i_zip, ↓i_enum, ↓ix_l0, ↓ix_l1, ↓ix_l2, ↓ix_l3, ↓ix_l4, ↓ix_t0, ↓ix_t1, ↓ix_t2, ↓ix_t3, ↓o_add, ↓o_adds, ↓o_sub, ↓o_mul, ↓o_fdiv, ↓o_mod, ↓o_pow, ↓o_neg, ↓o_eq, ↓o_ne, ↓o_lt, ↓o_le, ↓o_gt, ↓o_ge, ↓o_isN, ↓o_notN, ↓o_lenl, ↓o_lent, ↓o_lenf, ↓o_lens, ↓o_abs, ↓o_toInt, ↓o_isi, ↓o_gcd, ↓o_toList, ↓o_addl, ↓o_addt, ↓q_slc11l, ↓q_slc10l, ↓q_slc01l, ↓q_slc00l, ↓q_slc11f, ↓q_slc10f, ↓q_slc01f, ↓q_slc00f, ↓q_slc11t, ↓q_slc10t, ↓q_slc01t, ↓q_slc00t, ↓q_toIntb, ↓q_toListf, ↓q_toListt, ↓q_toTuplel, ↓q_toTuplet, ↓q_slcS11, ↓q_slcS10, ↓q_slcS01, ↓q_rep, ↓q_toStr, ↓q_strip, ↓q_starts, ↓q_part, ↓q_max2, ↓q_min2, ↓q_in, ↓q_notin, ↓np_none, ↓np_imm, ↓np_own, ↓ix_f0, ↓ix_f1, ↓la_fr, ↓eq_fr, ↓fl_t0, ↓fl_t1, ↓fl_t2, ↓fl_t3, ↓ob_tb, ↓ty_tb, ↓ix_q0, ↓ix_q1, ↓ix_q2, ↓ix_q3, ↓List.any_cons, ↓List.any_nil, ↓minusE, ↓negE, ↓applE, ↓makeE, ↓addE, ↓subE, ↓negtE, ↓multE, ↓scalE, ↓entE, ↓zeroE, ↓eqtE, ↓kq_sl_sl, ↓kr_sl_sl, ↓kq_sl_tu, ↓kr_sl_tu, ↓kq_sl_mi, ↓kr_sl_mi, ↓kq_sl_st, ↓kr_sl_st, ↓kq_sl_si, ↓kr_sl_si, ↓kq_sl_ev, ↓kr_sl_ev, ↓kq_tu_sl, ↓kr_tu_sl, ↓kq_tu_tu, ↓kr_tu_tu, ↓kq_tu_mi, ↓kr_tu_mi, ↓kq_tu_st, ↓kr_tu_st, ↓kq_tu_si, ↓kr_tu_si, ↓kq_tu_ev, ↓kr_tu_ev, ↓kq_mi_sl, ↓kr_mi_sl, ↓kq_mi_tu, ↓kr_mi_tu, ↓kq_mi_mi, ↓kr_mi_mi, ↓kq_mi_st, ↓kr_mi_st, ↓kq_mi_si, ↓kr_mi_si, ↓kq_mi_ev, ↓kr_mi_ev, ↓kq_st_sl, ↓kr_st_sl, ↓kq_st_tu, ↓kr_st_tu, ↓kq_st_mi, ↓kr_st_mi, ↓kq_st_st, ↓kr_st_st, ↓kq_st_si, ↓kr_st_si, ↓kq_st_ev, ↓kr_st_ev, ↓kq_si_sl, ↓kr_si_sl, ↓kq_si_tu, ↓kr_si_tu, ↓kq_si_mi, ↓kr_si_mi, ↓kq_si_st, ↓kr_si_st, ↓kq_si_si, ↓kr_si_si, ↓kq_si_ev, ↓kr_si_ev, ↓kq_ev_sl, ↓kr_ev_sl, ↓kq_ev_tu, ↓kr_ev_tu, ↓kq_ev_mi, ↓kr_ev_mi, ↓kq_ev_st, ↓kr_ev_st, ↓kq_ev_si, ↓kr_ev_si, ↓kq_ev_ev, ↓kr_ev_ev, ↓lk_sl, ↓lk_tu, ↓lk_mi, ↓lk_st, ↓lk_si, ↓lk_ev, ↓la_wd, ↓la_w2a, ↓la_w2b, ↓am_1, ↓am_2, ↓am_4, ↓timesEm, ↓plusE1, ↓longE, ↓kfE, ↓kcE, ↓filE, ↓tabE, ↓tabP, ↓madeE, ↓readE2, ↓ownE, ↓fitE, ↓wordsE, ↓isKE, ↓tabTu, ↓tabSE, ↓ownSE, ↓fitSE, ↓numE, ↓judE, ↓own_tab, ↓e_meth, ↓ob_1, ↓ob_2a, ↓ob_2b, ↓g_setFld, ↓g_insert, ↓ins_l, ↓sf_o, ↓pf_n, ↓pf_c, ↓fd_c, ↓o_fldo, ↓o_flde, ↓q_int, ↓q_notint, ↓q_idxw, ↓e_pure, ↓cm_n, ↓cm_c, ↓cm_0, ↓e_take, ↓tk_o, ↓tk_i, ↓ix_t4, at_0, at_S, set_0, set_S, lk_i, lk_o, lk_p, lk_l, re_nil, re_xi, re_xo, re_v, fl_i, fl_o, fl_p, fl_l, ar_nil, ar_x, ar_v, bk_nil, bk_x, bk_i, wr_S, wr_0f, wr_0o, wr_0p, bk_p, bk_l, as_0, as_S, as_vs, as_c, pu_c, tr_b, tr_i, tr_n, tr_l, tr_t, tr_s, bl_b, in_i, vl_i, vl_o, vl_p, vl_l, im_i, im_o, im_p, wi_nil, wi_c, sq_l, sq_f, sq_t, zp_ll, zp_tt, en_l, rg_1, rg_2, ch_s, fm_s, fm_i, st_0, st_1, st_2, st_3, st_4, ap_l, rv_o, rv_p, rv_i, rv_l, oK_nil, oK_nil0, oK_i, oK_p, oK_l, g_nx, g_nil, g_cons, g_asg, g_par, g_setIdx, g_append, g_ret, g_retV, g_retN, g_sife, g_for, g_ex, g_pass, g_brk, g_cont, e_var, e_cst, e_glo, e_op, e_call, e_tup, e_lst, e_ife, e_and, e_or, e_not, turn_eq, e_comp, e_fmt, e_imm, f_nil, f_cons, s_nil, s_v, s_e, s_n, t_nil, t_cons, b_tt, b_t, b_look, b_and, b_or, b_not, i_seq, i_range, i_chars, i_zip, i_enum, ix_l0, ix_l1, ix_l2, ix_l3, ix_l4, ix_t0, ix_t1, ix_t2, ix_t3, o_add, o_adds, o_sub, o_mul, o_fdiv, o_mod, o_pow, o_neg, o_eq, o_ne, o_lt, o_le, o_gt, o_ge, o_isN, o_notN, o_lenl, o_lent, o_lenf, o_lens, o_abs, o_toInt, o_isi, o_gcd, o_toList, o_addl, o_addt, q_slc11l, q_slc10l, q_slc01l, q_slc00l, q_slc11f, q_slc10f, q_slc01f, q_slc00f, q_slc11t, q_slc10t, q_slc01t, q_slc00t, q_toIntb, q_toListf, q_toListt, q_toTuplel, q_toTuplet, q_slcS11, q_slcS10, q_slcS01, q_rep, q_toStr, q_strip, q_starts, q_part, q_max2, q_min2, q_in, q_notin, o_idxl, o_idxf, o_idxt, o_idxs, o_all, q_any, q_sum, q_toIntS, q_inS, st_n, Option.map_some, ex_sb, ex_sl, ex_some, ex_some2, ex_rg, ex_true, bl_ex, tr_bl, tr_int, tr_non, tr_lst, tr_tup, eq_bl, eq_int, eq_str, eq_non, la_bl, la_int, la_non, beq_self_eq_true, ou_nil, ou_imm, ou_par, ou_parl, ow_nil, ow_x, ow_v, oi_o, oi_p, oi_i, oi_l, nodupB, wb_nil, wb_c, wpi_n, wpi_i, wpi_o, r_at0, r_atS, r_put0, r_putS, List.contains_nil, List.contains_cons, List.reverse_cons, List.reverse_nil, List.nil_append, List.cons_append, List.set_cons_zero, List.set_cons_succ, true_and, and_true, if_true, if_false, Bool.false_eq_true, Bool.not_true, Bool.not_false, Bool.and_true, Bool.true_and, Bool.and_false, Bool.false_and, Bool.or_false, Bool.false_or, Bool.or_true, Bool.true_or, List.any_cons, List.any_nil, hasTy, ownF, reduceCtorEq, forP_nil, np_none, np_imm, np_own, a_0, a_1, a_2, a_3, a_4, a_5, a_6, a_7, i_0, i_1, i_2, i_3, i_4, i_5, i_6, i_7, List.map_cons, List.map_nil, imms, List.length_cons, List.length_nil, ix_f0, ix_f1, la_fr, eq_fr, fl_t0, fl_t1, fl_t2, fl_t3, ob_tb, ty_tb, ix_q0, ix_q1, ix_q2, ix_q3, List.any_cons, List.any_nil, minusE, negE, applE, makeE, addE, subE, negtE, multE, scalE, entE, zeroE, eqtE, kq_sl_sl, kr_sl_sl, kq_sl_tu, kr_sl_tu, kq_sl_mi, kr_sl_mi, kq_sl_st, kr_sl_st, kq_sl_si, kr_sl_si, kq_sl_ev, kr_sl_ev, kq_tu_sl, kr_tu_sl, kq_tu_tu, kr_tu_tu, kq_tu_mi, kr_tu_mi, kq_tu_st, kr_tu_st, kq_tu_si, kr_tu_si, kq_tu_ev, kr_tu_ev, kq_mi_sl, kr_mi_sl, kq_mi_tu, kr_mi_tu, kq_mi_mi, kr_mi_mi, kq_mi_st, kr_mi_st, kq_mi_si, kr_mi_si, kq_mi_ev, kr_mi_ev, kq_st_sl, kr_st_sl, kq_st_tu, kr_st_tu, kq_st_mi, kr_st_mi, kq_st_st, kr_st_st, kq_st_si, kr_st_si, kq_st_ev, kr_st_ev, kq_si_sl, kr_si_sl, kq_si_tu, kr_si_tu, kq_si_mi, kr_si_mi, kq_si_st, kr_si_st, kq_si_si, kr_si_si, kq_si_ev, kr_si_ev, kq_ev_sl, kr_ev_sl, kq_ev_tu, kr_ev_tu, kq_ev_mi, kr_ev_mi, kq_ev_st, kr_ev_st, kq_ev_si, kr_ev_si, kq_ev_ev, kr_ev_ev, lk_sl, lk_tu, lk_mi, lk_st, lk_si, lk_ev, la_wd, la_w2a, la_w2b, am_1, am_2, am_4, timesEm, plusE1, longE, kfE, kcE, filE, tabE, tabP, madeE, readE2, ownE, fitE, wordsE, isKE, tabTu, tabSE, ownSE, fitSE, numE, judE, own_tab, drawE, pickE, lowE, plusE, timesE, textE, readE, t_whole, t_isfr, isspE, t_common, e_meth, ob_1, ob_2a, ob_2b, g_setFld, g_insert, ins_l, sf_o, pf_n, pf_c, fd_c, o_fldo, o_flde, q_int, q_notint, q_idxw, e_pure, cm_n, cm_c, cm_0, e_take, tk_o, tk_i, ix_t4, Nat.reduceEqDiff, eq_self, flatD, fT0, fT1, fT2, fT3, fT4, bT0, bT1, bT2, *]))
local macro_rules | `(tactic| walk_at "c") => `(tactic| repeat (refine And.intro (by first | decide +kernel | omega | (simp only [line]; omega)) ?_))
local macro_rules | `(tactic| walk_at "s") => `(tactic| ((refine cutS fun Nx hNx => ?_); walk_at "v"))
local macro_rules | `(tactic| walk_at "n") => `(tactic| ((refine NxH.out (by assumption) _ ?_); (rw [g_nx]); (refine cutS fun Nx hNx => ?_); walk_at "v"))
local macro_rules | `(tactic| walk_at "m") => `(tactic| ((refine NxH.out (by assumption) _ ?_); walk_at "v"))
local macro_rules | `(tactic| walk_at "a") => `(tactic| ((refine cutA fun Nx hNx => ?_); walk_at "v"))
--#m4
theorem smd {n : Nat} {x : Rat} (h : Sm n x) (h0 : 0 < n) : Sm (n + 22) (x + 1) := by
  have := sm_add h (l := 1) (y := 1) sm_one
  exact sm_mono this (by omega)
theorem bent1_ok (G : Glob) (h5 : G.fn 5 = drawT) (h11 : G.fn 11 = pickT) (h12 : G.fn 12 = bT Z0 rSmall) (h40 : G.fn 40 = fnT rTimes) (h45 : G.fn 45 = fnT rPlus) : Ok G 2 3 b__law_bent_1 bentT := by
  refine bT_ok ?_
  rintro bag ds hb ⟨⟨a, b, c, d⟩, n, rfl, ht, n0, n1⟩ Q X hQ
  rw [run_eq]
  refine ⟨rfl, ?_⟩
  show wpSs G b__law_bent_1 [some (.par, bag), some (.imm, .tup [fr a, fr b, fr c, fr d]), none, none, none] _
  have q : ∀ {x y z w : Rat} {bag : D}, Bag bag → (∀ n, 0 < n → SmQ n (a, b, c, d) → SmQ (n + 22) (x, y, z, w)) → Q (.imm, .tup [fr x, fr y, fr z, fr w]) [(.par, bag), (.imm, .tup [fr a, fr b, fr c, fr d])] := fun hb h => hQ _ _ (fun t m e hm hm0 => by
    have := t4_inj (List.cons.inj e).1
    subst this
    exact ⟨_, rfl, h m hm0 hm⟩) hb
  clear hQ
  replace q := Hid.mk @q
  have cu : ∀ a b c d : D, cut [a, b, c, d] none (some 0) = [] ∧ cut [a, b, c, d] none (some 1) = [a] ∧ cut [a, b, c, d] none (some 2) = [a, b] ∧ cut [a, b, c, d] none (some 3) = [a, b, c] ∧ cut [a, b, c, d] (some (0 + 1)) none = [b, c, d] ∧ cut [a, b, c, d] (some (1 + 1)) none = [c, d] ∧ cut [a, b, c, d] (some (2 + 1)) none = [d] ∧ cut [a, b, c, d] (some (3 + 1)) none = [] := fun _ _ _ _ => ⟨rfl, rfl, rfl, rfl, rfl, rfl, rfl, rfl⟩
  have ia : (3 : Int) - 0 = 3 ∧ (3 : Int) - 1 = 2 ∧ (3 : Int) - 2 = 1 ∧ (3 : Int) - 3 = 0 := by decide
  have sm1 : Sm (n + 1) 1 := sm_one
  have sm2 : Sm (n + 1) (-1) := sm_neg sm_one
  have hn1 : n + 1 < 3000 := by omega
  obtain ⟨sa, sb, sc, sd⟩ := ht
  have ua := sm_mono sa (Nat.le_succ n)
  have ub := sm_mono sb (Nat.le_succ n)
  have uc := sm_mono sc (Nat.le_succ n)
  have ud := sm_mono sd (Nat.le_succ n)
  have ex : ∀ {x y : Rat}, Sm (n + 1) x → Sm (n + 1) y → ∃ k, k < 3000 ∧ 0 < k ∧ Sm k x ∧ Sm k y := fun h h' => ⟨n + 1, hn1, by omega, h, h'⟩
  replace sa := Hid.mk sa
  replace sb := Hid.mk sb
  replace sc := Hid.mk sc
  replace sd := Hid.mk sd
  have m4 : ∀ {k : Nat} (u v : Rat), 0 < k → SmQ k (a, b, c, d) → Sm 21 v → (u = a ∨ u = b ∨ u = c ∨ u = d) → ∀ {e : D} {x y : Rat}, True → ∀ w : Rat, (w = v ∨ w = 0 ∨ w = 1 ∨ w = u + 1 ∨ w = -u ∨ w = a ∨ w = b ∨ w = c ∨ w = d) → Sm (k + 22) w := by
    intro k u v k0 hk hv hu _ _ _ _ w hw
    have up : ∀ {z : Rat}, (z = a ∨ z = b ∨ z = c ∨ z = d) → Sm k z := by
      rintro z (rfl | rfl | rfl | rfl)
      · exact hk.1
      · exact hk.2.1
      · exact hk.2.2.1
      · exact hk.2.2.2
    have up2 : ∀ {z : Rat}, (z = a ∨ z = b ∨ z = c ∨ z = d) → Sm (k + 22) z := fun h => sm_mono (up h) (by omega)
    rcases hw with rfl | rfl | rfl | rfl | rfl | hw | hw | hw | hw
    · exact sm_mono hv (by omega)
    · exact sm_zero
    · exact sm_one
    · exact smd (up hu) k0
    · exact sm_neg (up2 hu)
    · exact up2 (.inl hw)
    · exact up2 (.inr (.inl hw))
    · exact up2 (.inr (.inr (.inl hw)))
    · exact up2 (.inr (.inr (.inr hw)))
  replace m4 := Hid.mk @m4
  simp only [b__law_bent_1]
  walk_at "v"
  refine ⟨by decide, by decide, fun k bag1 hb1 k0 k1 => ?_⟩
  clear hb
  have hk : k = 0 ∨ k = 1 ∨ k = 2 ∨ k = 3 := by omega
  walk_at "v"
  rintro _ bag2 ⟨v, rfl, hv⟩ hb2
  clear hb1
  have mem : ∀ (u w : Rat), (u = a ∨ u = b ∨ u = c ∨ u = d) → (w = a ∨ w = b ∨ w = c ∨ w = d) → ∀ e : D, e ∈ [fr v, .tup [.int 0, .int 1], .tup [.int 1, .int 1], fr (u + 1), fr (-u), fr w, fr a, fr b] → ∃ z : Rat, e = fr z ∧ ∀ k, 0 < k → SmQ k (a, b, c, d) → Sm (k + 22) z := by
    intro u w hu hw e he
    have key : ∃ z : Rat, e = fr z ∧ (z = v ∨ z = 0 ∨ z = 1 ∨ z = u + 1 ∨ z = -u ∨ z = a ∨ z = b ∨ z = c ∨ z = d) := by
      simp only [List.mem_cons, List.not_mem_nil, or_false] at he
      rcases he with rfl | rfl | rfl | rfl | rfl | rfl | rfl | rfl
      · exact ⟨_, rfl, .inl rfl⟩
      · exact ⟨0, rfl, .inr (.inl rfl)⟩
      · exact ⟨1, rfl, .inr (.inr (.inl rfl))⟩
      · exact ⟨_, rfl, .inr (.inr (.inr (.inl rfl)))⟩
      · exact ⟨_, rfl, .inr (.inr (.inr (.inr (.inl rfl))))⟩
      · exact ⟨_, rfl, .inr (.inr (.inr (.inr (.inr hw))))⟩
      · exact ⟨_, rfl, .inr (.inr (.inr (.inr (.inr (.inl rfl)))))⟩
      · exact ⟨_, rfl, .inr (.inr (.inr (.inr (.inr (.inr (.inl rfl))))))⟩
    obtain ⟨z, rfl, hz⟩ := key
    exact ⟨z, rfl, fun k k0 hk => m4.out u v k0 hk hv hu (e := .non) (x := 0) (y := 0) True.intro z hz⟩
  replace mem := Hid.mk mem
  have up3 : ∀ {k : Nat} {z : Rat}, Sm k z → Sm (k + 22) z := fun h => sm_mono h (by omega)
  replace up3 := Hid.mk @up3
  rcases hk with rfl | rfl | rfl | rfl
  · walk_at "v"
    refine ⟨by simp, by decide, fun e bag3 he hb3 => ?_⟩
    clear hb2
    obtain ⟨z, rfl, hz⟩ := mem.out a d (.inl rfl) (.inr (.inr (.inr rfl))) e he
    walk_at "v"
    exact ⟨by decide, by decide, q.out hb3 fun k k0 h => ⟨hz k k0 h, up3.out h.2.1, up3.out h.2.2.1, up3.out h.2.2.2⟩⟩
  · walk_at "v"
    refine ⟨by simp, by decide, fun e bag3 he hb3 => ?_⟩
    clear hb2
    obtain ⟨z, rfl, hz⟩ := mem.out b c (.inr (.inl rfl)) (.inr (.inr (.inl rfl))) e he
    walk_at "v"
    exact ⟨by decide, by decide, q.out hb3 fun k k0 h => ⟨up3.out h.1, hz k k0 h, up3.out h.2.2.1, up3.out h.2.2.2⟩⟩
  · walk_at "v"
    refine ⟨by simp, by decide, fun e bag3 he hb3 => ?_⟩
    clear hb2
    obtain ⟨z, rfl, hz⟩ := mem.out c b (.inr (.inr (.inl rfl))) (.inr (.inl rfl)) e he
    walk_at "v"
    exact ⟨by decide, by decide, q.out hb3 fun k k0 h => ⟨up3.out h.1, up3.out h.2.1, hz k k0 h, up3.out h.2.2.2⟩⟩
  · walk_at "v"
    refine ⟨by simp, by decide, fun e bag3 he hb3 => ?_⟩
    clear hb2
    obtain ⟨z, rfl, hz⟩ := mem.out d a (.inr (.inr (.inr rfl))) (.inl rfl) e he
    walk_at "v"
    exact ⟨by decide, by decide, q.out hb3 fun k k0 h => ⟨up3.out h.1, up3.out h.2.1, up3.out h.2.2.1, hz k k0 h⟩⟩
--#m4
theorem lay_l {n : Nat} {xs : List D} (h : xs.all (lay n) = true) : lay (n + 1) (.lst xs) = true := h
theorem sz_l {n : Nat} {xs : List D} (h : xs.length ≤ 100000) (g : xs.all (szB n) = true) : szB (n + 1) (.lst xs) = true := by
  show (decide (xs.length ≤ 100000) && xs.all (szB n)) = true
  rw [decide_eq_true h, g]
  rfl
theorem sz_bl {n : Nat} {b : Bool} : szB n (.bl b) = true := by cases n <;> rfl
theorem sz_int {n : Nat} {b : Int} : szB n (.int b) = true := by cases n <;> rfl
theorem sz_non {n : Nat} : szB n .non = true := by cases n <;> rfl
theorem sameE {n : Nat} {d : D} {Q : Val → List Val → Prop} {X : D → List Val → Prop} (h1 : lay n d = true) (h2 : szB n d = true) (h : Q (.imm, .bl true) [(.imm, d), (.imm, d)]) : sameT n [(.imm, d), (.imm, d)] Q X := ⟨[d, d], rfl, ⟨d, rfl, h1, h2⟩, h⟩
theorem judged_ok (G : Glob) (h6 : G.fn 6 = sameT 20) (h39 : G.fn 39 = ownT) (h53 : G.fn 53 = wordsT) (h55 : G.fn 55 = fitT) (h57 : G.fn 57 = fitS) (h58 : G.fn 58 = readT) (h59 : G.fn 59 = madeT) : Ok G 1 4 b__law_judged_so judT := by
  refine pT_ok ?_
  rintro t ht Q X hQ
  rw [run_eq]
  refine ⟨rfl, ?_⟩
  show wpSs G b__law_judged_so [some (.imm, t4 t), none, none, none, none] _
  simp only [b__law_judged_so]
  have hQ : Q (.imm, .bl true) [(.imm, t4 t)] := hQ
  replace hQ := Hid.mk hQ
  replace ht : SmQ 2000 t := ht
  walk_at "v"
  refine forP_inv (fun its ρ => (∀ d ∈ its, ∃ k, d = wdD k) ∧ ∃ o2 o3 o4, ρ = [some (.imm, t4 t), some (.imm, tb t), o2, o3, o4] ∧ Sl o2 ∧ Sl o3 ∧ Sl o4) _ ⟨fun d hd => kts_mem hd, _, _, _, rfl, sl_none, sl_none, sl_none⟩ ?_ ?_
  · rintro d ds _ K ⟨hd, o2, o3, o4, rfl, s2, s3, s4⟩ hK
    have s2 := fun R => s2 R
    have s3 := fun R => s3 R
    have s4 := fun R => s4 R
    replace hK := Hid.mk hK
    obtain ⟨k, rfl⟩ := hd d (List.mem_cons_self ..)
    replace hd := Hid.mk hd
    by_cases hk : (rd k t).tab = t
    · have e1 : ownD k t = (.own, .lst (rd k t).nums) := if_pos hk
      have e2 : ownI k t = .lst (rd k t).nums := if_pos hk
      have hk' : decide ((rd k t).tab = t) = true := by simpa using hk
      replace hk := Hid.mk hk
      walk_at "v"
      refine sameE (lay_l (by simp [lay_nums, la_bl])) (sz_l (by simp) (by simp [sz_nums, sz_bl])) ?_
      walk_at "v"
      exact hK.out _ ⟨fun e he => hd.out e (List.mem_cons_of_mem _ he), _, _, _, rfl, fun _ => rfl, fun _ => rfl, fun _ => rfl⟩
    · have e1 : ownD k t = (.imm, .non) := if_neg hk
      have e2 : ownI k t = .non := if_neg hk
      have hk' : decide ((rd k t).tab = t) = false := by simpa using hk
      replace hk := Hid.mk hk
      walk_at "v"
      refine sameE (by simp [lay]) (by simp [szB]) ?_
      walk_at "v"
      exact hK.out _ ⟨fun e he => hd.out e (List.mem_cons_of_mem _ he), _, _, _, rfl, fun _ => rfl, fun _ => rfl, fun _ => rfl⟩
  · rintro _ ⟨_, o2, o3, o4, rfl, s2, s3, s4⟩
    walk_at "v"
    exact hQ.out
theorem numbers_ok (G : Glob) (h6 : G.fn 6 = sameT 20) (h36 : G.fn 36 = eqtT) (h37 : G.fn 37 = tabT) (h38 : G.fn 38 = entT) (h39 : G.fn 39 = ownT) (h43 : G.fn 43 = filT) (h54 : G.fn 54 = ownS) (h55 : G.fn 55 = fitT) (h56 : G.fn 56 = tabS) : Ok G 2 5 b__law_numbers_so numT := by
  refine pT_ok ?_
  rintro o ho Q X hQ
  rw [run_eq]
  refine ⟨rfl, ?_⟩
  show wpSs G b__law_numbers_so [some (.imm, .str o.kd.wd), some (.imm, .lst o.nums), none, none, none, none, none] _
  simp only [b__law_numbers_so]
  have hQ : Q (.imm, .bl true) [(.imm, .str o.kd.wd), (.imm, .lst o.nums)] := hQ
  replace hQ := Hid.mk hQ
  replace ho : o.sm 2000 := ho
  have ft : decide ((rd o.kd o.tab).tab = o.tab) = true := by rw [rd_tab]; exact decide_eq_true rfl
  have et : decide (o.tab = o.tab) = true := decide_eq_true rfl
  have ln : o.nums.length < line := Nat.lt_trans (nums_len o) (by decide)
  have hy := @ty_tb
  have ix0 : ∀ x : D, ixN (o.nums ++ [x]).length 0 = some 0 := fun x => by
    unfold ixN
    simp
  walk_at "v"
  refine sameE (lay_l (by simp [lay_nums, la_t4])) (sz_l (by simp) (by simp [sz_nums, sz_t4])) ?_
  walk_at "v"
  refine sameE (lay_l (by simp [lay_nums, la_t4, la_bl])) (sz_l (by simp) (by simp [sz_nums, sz_t4, sz_bl])) ?_
  walk_at "v"
  refine sameE (lay_nums _ _) (sz_nums _ _) ?_
  walk_at "v"
  exact hQ.out
--#m4
theorem wd_ok (k : Kd) : okN 10 k.wd := by cases k <;> exact ⟨by decide +kernel, by decide⟩
theorem isk_wd (k : Kd) : isK (.str k.wd) = true := by cases k <;> decide +kernel
def rowK (k : Kd) : D := .lst [.bl true, .bl true, .bl k.free, .bl k.free, .int k.n, .int k.n]
def kix : List (Kd × Int) := [(.sl, 0), (.tu, 1), (.mi, 2), (.st, 3), (.si, 4), (.ev, 5)]
theorem kix_mem {q : Kd × Int} (h : q ∈ kix) : atI kts q.2 = some (.str q.1.wd) ∧ decide (q.2 < 3) = q.1.free := by
  simp only [kix, List.mem_cons, List.not_mem_nil, or_false] at h
  rcases h with rfl | rfl | rfl | rfl | rfl | rfl <;> exact ⟨rfl, by decide⟩
theorem odd_no {d : D} (h : ∀ z, d ≠ .str z) : (∀ z, d = .str z → lay 60 d = true) ∧ isK d = false := by
  refine ⟨fun z e => absurd e (h z), ?_⟩
  cases d <;> first | rfl | exact absurd rfl (h _)
theorem odd_mem {k : Kd} {d : D} (h : d ∈ [.non, .bl true, .int 0, .int 3, .str "", .str " ", .str "Even", .str "evens", .str "size", .str "free", .str "kind", .tup [.str k.wd], .lst [.str k.wd], .lst kts, tb (0, 0, 0, 0), .tup kts, .str "even\n"]) : (∀ z, d = .str z → lay 60 d = true) ∧ isK d = false := by
  simp only [List.mem_cons, List.not_mem_nil, or_false] at h
  rcases h with rfl | rfl | rfl | rfl | rfl | rfl | rfl | rfl | rfl | rfl | rfl | rfl | rfl | rfl | rfl | rfl | rfl
  · exact odd_no fun z e => D.noConfusion e
  · exact odd_no fun z e => D.noConfusion e
  · exact odd_no fun z e => D.noConfusion e
  · exact odd_no fun z e => D.noConfusion e
  · exact ⟨fun _ _ => lay_s (by decide +kernel), by decide +kernel⟩
  · exact ⟨fun _ _ => lay_s (by decide +kernel), by decide +kernel⟩
  · exact ⟨fun _ _ => lay_s (by decide +kernel), by decide +kernel⟩
  · exact ⟨fun _ _ => lay_s (by decide +kernel), by decide +kernel⟩
  · exact ⟨fun _ _ => lay_s (by decide +kernel), by decide +kernel⟩
  · exact ⟨fun _ _ => lay_s (by decide +kernel), by decide +kernel⟩
  · exact ⟨fun _ _ => lay_s (by decide +kernel), by decide +kernel⟩
  · exact odd_no fun z e => D.noConfusion e
  · exact odd_no fun z e => D.noConfusion e
  · exact odd_no fun z e => D.noConfusion e
  · exact odd_no fun z e => D.noConfusion e
  · exact odd_no fun z e => D.noConfusion e
  · exact ⟨fun _ _ => lay_s (by decide +kernel), by decide +kernel⟩
theorem wordsso_ok (G : Glob) (h5 : G.fn 5 = drawT) (h6 : G.fn 6 = sameT 20) (h11 : G.fn 11 = pickT) (h44 : G.fn 44 = kcT) (h46 : G.fn 46 = isKT) (h47 : G.fn 47 = isKT) (h48 : G.fn 48 = zeroT) (h49 : G.fn 49 = kcT) (h50 : G.fn 50 = kcT) (h51 : G.fn 51 = kfT) (h52 : G.fn 52 = kfT) (h53 : G.fn 53 = wordsT) (hc : G.cst 1 = some (.tup kts)) : Ok G 1 7 b__law_words_so (bT Z0 fun _ r => r = .bl true) := by
  refine bT_ok ?_
  rintro bag ds hb rfl Q X hQ
  rw [run_eq]
  refine ⟨rfl, ?_⟩
  show wpSs G b__law_words_so [some (.par, bag), none, none, none, none, none, none, none] _
  simp only [b__law_words_so]
  replace hQ := Hid.mk hQ
  have iw := fun k => isk_wd k
  walk_at "v"
  refine sameE (by decide +kernel) (by decide +kernel) ?_
  walk_at "v"
  refine ⟨by decide, ?_⟩
  have em : List.map (fun q : Kd × Int => rowK q.1) kix = List.map rowK kds := rfl
  have lkt : ∀ n, lay (n + 1) (.lst kts) = true ∧ lay (n + 1) (.tup kts) = true := fun n => by
    have : kts.all (lay n) = true := by simp [kts, la_wd]
    exact ⟨this, this⟩
  have lkt60 := lkt 59
  refine forP_mapa (l := kds) wdD rowK [] (fun k hk acc K hK => ?_) ?_
  · have hK : K (acc ++ [.lst [.bl true, .bl true, .bl k.free, .bl k.free, .int k.n, .int k.n]], _) := hK
    walk_at "v"
    exact ⟨fun _ _ => True.intro, fun _ _ => True.intro⟩
  walk_at "v"
  refine ⟨⟨by decide, by decide⟩, by decide, ?_⟩
  refine forP_mapa (l := kix) (fun q => .int q.2) (fun q => rowK q.1) [] (fun q hq acc K hK => ?_) ?_
  · have hK : K (acc ++ [.lst [.bl true, .bl true, .bl q.1.free, .bl q.1.free, .int q.1.n, .int q.1.n]], _) := hK
    obtain ⟨q1, q2⟩ := kix_mem hq
    walk_at "v"
  walk_at "v"
  refine sameE (by decide +kernel) (by decide +kernel) ?_
  walk_at "v"
  refine ⟨by simp [kts], by decide, fun d bag1 hd hb1 => ?_⟩
  obtain ⟨k, rfl⟩ := kts_mem hd
  have wk := wd_ok k
  have wk2 := wk.2
  clear hb
  walk_at "v"
  refine ⟨by simp only [line]; omega, by omega, by omega, fun i bag2 hb2 i0 i1 => ?_⟩
  clear hb1
  walk_at "v"
  refine ⟨by simp only [line]; omega, by simp, by decide, fun p bag3 hp hb3 => ?_⟩
  clear hb2
  have hp' : ∃ y, p = .str y ∧ okN 1 y := by
    have z := List.all_eq_true.mp (show (List.all [D.str "", .str "e", .str "s", .str " ", .str "d", .str "E", .str "n"] fun e => match e with | .str y => y.cps.all (· < 0x110000) && decide (y.length ≤ 1) | _ => false) = true by kernel_rfl) p hp
    cases p <;> first | (cases z; done) | skip
    rename_i y
    simp only [Bool.and_eq_true, decide_eq_true_eq] at z
    exact ⟨y, rfl, z⟩
  obtain ⟨y, rfl, hy⟩ := hp'
  have c1 := okN_cut (lo := none) (hi := some i) wk
  have a1 := okN_app c1 hy
  have a12 := a1.2
  have c12 := c1.2
  have hy2 := hy.2
  walk_at "v"
  refine ⟨by simp only [line]; omega, by decide, by decide, fun j bag4 hb4 j0 j1 => ?_⟩
  clear hb3
  have c2 := okN_cut (lo := some (i + j)) (hi := none) wk
  have c22 := c2.2
  have a2 := okN_app a1 c2
  have la : lay 60 (.str (cutT k.wd none (some i) ++ y ++ cutT k.wd (some (i + j)) none)) = true := okN.lay a2
  generalize hz : cutT k.wd none (some i) ++ y ++ cutT k.wd (some (i + j)) none = z at la
  have ikz : isK (.str z) = kts.any fun y => eqD y (.str z) := rfl
  have zz := @zeroE
  walk_at "v"
  refine ⟨by simp only [line]; omega, by simp only [line]; omega, by simp, by decide, fun e bag5 he hb5 => ?_⟩
  clear hb4
  obtain ⟨o1, o2⟩ := odd_mem he
  clear he
  replace ikz := Hid.mk ikz
  have la' : ∀ z', D.str z = .str z' → lay 60 (D.str z) = true := fun _ _ => la
  walk_at "v"
  refine ⟨fun _ _ => True.intro, fun z e => ?_, ?_⟩
  · exact o1 z e
  refine sameE (d := .lst [.bl (isK (.str z)), .bl false]) (lay_l (by simp [la_bl])) (sz_l (by simp) (by simp [sz_bl])) ?_
  walk_at "v"
  exact hQ.out _ _ rfl hb5
end Lw
end Ev
set_option Elab.async false
set_option linter.all false
set_option autoImplicit false
set_option maxRecDepth 100000
set_option maxHeartbeats 1000000
/-! what joins the walks with the head -/
namespace Ev
open PySem PySem.Spec PyProof.Rows L2
section
variable {P : Program} {w : World} {K : PySem.W.Frag} {mg : Str → Option Value} {base : Heap} {k n : Nat} {f C : Addr} {fd : FuncData} {ps ks : List Str} {sp sp' : Sp} {N : Nm}
theorem callOk_mono {j : Nat} (F : CallOk P w K mg base j f n ks sp) (h : j ≤ k) : CallOk P w K mg base k f n ks sp := fun A outer s H us ws vs zs Q E hr => F A outer s H us ws vs zs Q E (hr.mono h)
theorem callOk_imp (F : CallOk P w K mg base k f n ks sp) (h : ∀ vs H Q E, sp' vs H Q E → sp vs H Q E) : CallOk P w K mg base k f n ks sp' := fun A outer s H us ws vs zs Q E hr e0 r rz l1 l2 q => F A outer s H us ws vs zs Q E hr e0 r rz l1 l2 (h _ _ _ _ q)
theorem sp_imp {T T' : Tr} (h : ∀ as Q X, T' as Q X → T as Q X) (vs : List V) (H : Hp) (Q : VK) (E : XK) (q : spOf N T' vs H Q E) : spOf N T vs H Q E := by
  obtain ⟨I, as, Q0, X0, r, lv, ok, ht, kq, kx⟩ := q
  exact ⟨I, as, Q0, X0, r, lv, ok, h as Q0 X0 ht, kq, kx⟩
/-- one value, by its name -/
theorem arr_one {R : List D → Val → Prop} {T : Tr} (hT : ∀ as Q X, T as Q X ↔ ∃ ds r, as = imms ds ∧ R ds r ∧ Q r as) (hR : ∀ ds r, R ds r → ∃ d, ds = [d]) (as : List Val) (Q : Val → List Val → Prop) (X : D → List Val → Prop) (h : T as Q X) : arrT [.inl 0] [] T as Q X := by
  obtain ⟨ds, r, rfl, h1, h2⟩ := (hT as Q X).mp h
  obtain ⟨d, rfl⟩ := hR ds r h1
  refine ⟨fun a ha => ?_, [(.imm, d)], rfl, (hT _ _ _).mpr ⟨[d], r, rfl, h1, h2⟩⟩
  simp only [imms, List.map_cons, List.map_nil, List.mem_cons, List.not_mem_nil, or_false] at ha
  rw [ha]
theorem arr_two' {R : List D → Val → Prop} {T : Tr} (hT : ∀ as Q X, T as Q X ↔ ∃ ds r, as = imms ds ∧ R ds r ∧ Q r as) (hR : ∀ ds r, R ds r → ∃ d e, ds = [d, e]) (as : List Val) (Q : Val → List Val → Prop) (X : D → List Val → Prop) (h : T as Q X) : arrT [.inl 0, .inl 1] [] T as Q X := by
  obtain ⟨ds, r, rfl, h1, h2⟩ := (hT as Q X).mp h
  obtain ⟨d, e, rfl⟩ := hR ds r h1
  refine ⟨fun a ha => ?_, [(.imm, d), (.imm, e)], rfl, (hT _ _ _).mpr ⟨[d, e], r, rfl, h1, h2⟩⟩
  simp only [imms, List.map_cons, List.map_nil, List.mem_cons, List.not_mem_nil, or_false] at ha
  rcases ha with rfl | rfl <;> rfl
theorem kbn_none {x qual : Str} {params : Arguments} {body : List Stmt} {scope : Scope} {kws : List (Str × V)} {ix : List (Nat ⊕ Nat)} (F : FunD K x qual params body scope [] kws f fd)
    (h : ∀ (kV doc pm : Value) (an : Option Addr) (cdv ct : Value) (us ws : List Value), us.length = n → ws.length = ks.length → bindArgs (PySem.W.fnOf x qual params body scope .none kV doc pm an cdv ct) ⟨us, ks.zip ws⟩ = pure (ps.zip ((arr ix (us ++ ws) []).getD []))) :
    KBn K fd ps n ks (fun us ws => (arr ix (us ++ ws) ([] : List Value)).getD []) (fun vs zs => (arr ix (vs ++ zs) ([] : List V)).getD []) := by
  obtain ⟨oc, od, dV, kV, doc, pm, an, cdv, ct, osl, rfl, lk, hcd, hD, hK⟩ := F.ex
  rcases hD with ⟨_, rfl⟩ | ⟨e, _⟩
  · exact ⟨fun s us ws X l1 l2 => .of_eq (h kV doc pm an cdv ct us ws l1 l2), fun r rz => arr_vals r rz .nil⟩
  · exact absurd rfl e
/-! ### facts off the written part -/
theorem oexB_ok (h : oexB K C = true) : OexC K C := by
  unfold oexB at h
  simp only [Bool.and_eq_true, decide_eq_true_eq] at h
  obtain ⟨q, h2, h3, h4, h5⟩ := h
  refine ⟨?_, He.eqO_ok h2, h3, h4, h5⟩
  split at q
  · rename_i dd cd sl ho
    split at q
    · rename_i C' bm k0 k1 k2 k3 n k5 hm hs
      simp only [Bool.and_eq_true, beq_iff_eq, Bool.not_eq_true'] at q
      obtain ⟨rfl, rfl, hdel, hdct, hb⟩ := q
      obtain ⟨nm, bs, mro, ns, qn, hd, sn, sub, ab, col, del⟩ := cd
      dsimp only at hm hdel hdct
      subst hm hdel hdct
      have hsl : sl = #[k0, k1, k2, k3, some (.builtin "ValueError.__new__"), k5] := by
        obtain ⟨l⟩ := sl
        simp only at hs
        rw [hs]
      subst hsl
      exact ⟨nm, qn, ns, bs, bm, sn, sub, ab, col, dd, k0, k1, k2, k3, k5, ho, hb⟩
    · cases q
  · cases q
theorem kiteB_ok {an : List Nat} (h : kiteB K C an = true) : KitE K C an := by
  unfold kiteB at h
  simp only [Bool.and_eq_true, decide_eq_true_eq, List.all_eq_true, kitB] at h
  obtain ⟨h1, h2, h3, h4, h5, h6, h7, h8, h9, h10, h11, h12⟩ := h
  refine ⟨h1, He.eqO_ok h2, Option.isSome_iff_exists.mp h3, h4, He.eqO_ok h5, He.eqO_ok h6, h7, h8, h9, fun i n hi => ?_⟩
  match i, hi with
  | 0, hi => cases hi; exact h10
  | 1, hi => cases hi; exact h11
  | 2, hi => cases hi; exact h12
  | i + 3, hi => cases hi
/-- the law's def at the script -/
def lawT : Tr := fun as Q _ => ∃ ns : List Int, as = [(.imm, .frz (ns.map D.int))] ∧ ns.length ≤ 63 ∧ Q (.imm, .bl true) as
theorem law_sp {H : Hp} {a : Addr} {ns : List Int} (eK : K = N.K) (hl : ns.length ≤ 63) (hS : SqL K H a (ns.map V.int)) : spOf N lawT [.ref a] H (fun v _ => v = .bl true) fun _ _ _ => False := by
  have rl : ∀ (I : Addr → Prop), RepL N I H (ns.map D.int) (ns.map V.int) := fun I => by
    clear hl hS
    induction ns with
    | nil => rfl
    | cons i ns ih => exact ⟨.int i, ns.map V.int, rfl, rfl, ih⟩
  have key : ∃ I : Addr → Prop, (∀ p, I p → ∃ o, H p = some o) ∧ Rep N I H (.frz (ns.map D.int)) (.ref a) := by
    rcases hS with h | h
    · refine ⟨fun p => p = a, fun p e => ?_, a, _, rfl, .inl ⟨rfl, h⟩, rl _⟩
      subst e
      rcases h with h | ⟨u, h⟩
      · exact ⟨_, h⟩
      · exact ⟨_, h⟩
    · subst eK
      obtain ⟨o, its, m, h1, h2, h3, h4, h5, h6⟩ := h
      exact ⟨fun _ => False, fun _ z => z.elim, a, _, rfl, .inr ⟨o, its, m, h1, h2, h3, h4, h5, h6⟩, rl _⟩
  obtain ⟨I, hi, hr⟩ := key
  refine ⟨I, [(.imm, .frz (ns.map D.int))], fun r _ => r = (.imm, .bl true), fun _ _ => False, R.imm (bs := [(.imm, .frz (ns.map D.int))]) (us := [.ref a]) hi (fun b hb => ?_) (fun j b hb => ?_), rfl, fun b hb => ?_, ⟨ns, rfl, hl, rfl⟩, fun r outs e v H' I' w' e' _ rc hl1 _ _ => ?_, fun _ _ z => z.elim⟩
  · rcases List.mem_cons.mp hb with e | e
    · rw [e]
    · cases e
  · cases j with
    | zero => cases hb; exact ⟨_, rfl, hr⟩
    | succ j => simp at hb
  · rcases List.mem_cons.mp hb with e | e
    · rw [e]; exact .inl rfl
    · cases e
  · subst e
    have le : (e' ++ [some ((Fl.imm, D.bl true) : Val)])[e'.length]? = some (some (.imm, .bl true)) := by simp
    obtain ⟨u, hu, ru⟩ := rc.rep _ _ le
    have lw : (w' ++ [some v])[e'.length]? = some (some v) := by rw [← hl1]; simp
    rw [lw] at hu
    cases hu
    exact (repV_imm rfl).mp ru
/-- the calls that a body makes -/
def FnsOk (P : Program) (w : World) (K : PySem.W.Frag) (mg : Str → Option Value) (base : Heap) (k : Nat) (N : Nm) (G : Glob) (l : List (Nat × (Str × Nat × List Str))) : Prop := ∀ h x n ks, l.lookup h = some (x, n, ks) → ∃ f, mg x = some (.ref f) ∧ PySem.W.keepIn K (.ref f) = true ∧ CallOk P w K mg base k f n ks (spOf N (G.fn h))
theorem fns_nil {G : Glob} : FnsOk P w K mg base k N G [] := fun h x n ks e => by cases e
theorem fns_cons {G : Glob} {h0 m j : Nat} {x0 : Str} {ks0 : List Str} {f0 : Addr} {l : List (Nat × (Str × Nat × List Str))} (g : mg x0 = some (.ref f0)) (kp : PySem.W.keepIn K (.ref f0) = true) (c : CallOk P w K mg base j f0 m ks0 (spOf N (G.fn h0))) (hj : j ≤ k) (r : FnsOk P w K mg base k N G l) : FnsOk P w K mg base k N G ((h0, (x0, m, ks0)) :: l) := fun h x n ks e => by
  have e : (match h == h0 with | true => some (x0, m, ks0) | false => l.lookup h) = some (x, n, ks) := e
  cases q : h == h0 with
  | true =>
    rw [q] at e
    cases e
    have eh : h = h0 := by simpa using q
    rw [eh]
    exact ⟨f0, g, kp, callOk_mono c hj⟩
  | false =>
    rw [q] at e
    exact r h x n ks e
end
end Ev
set_option Elab.async false
set_option linter.all false
set_option autoImplicit false
set_option maxRecDepth 100000
set_option maxHeartbeats 1000000
namespace Ev
namespace Lw
open PySem PySem.Spec PyProof.Rows L2
local macro_rules | `(tactic| walk_at "v") => `(tactic| ((try refine hol ?_); try simp (config := { maxSteps := 2000000, implicitDefEqProofs := false }) only [↓pu_n, ↓av_n, pu_n, av_n, ↓at_0, ↓at_S, ↓set_0, ↓set_S, ↓lk_i, ↓lk_o, ↓lk_p, ↓lk_l, ↓re_nil, ↓re_xi, ↓re_xo, ↓re_v, ↓fl_i, ↓fl_o, ↓fl_p, ↓fl_l, ↓ar_nil, ↓ar_x, ↓ar_v, ↓bk_nil, ↓bk_x, ↓bk_i, ↓wr_S, ↓wr_0f, ↓wr_0o, ↓wr_0p, ↓bk_p, ↓bk_l, ↓as_0, ↓as_S, ↓as_vs, ↓as_c, ↓pu_c, ↓tr_b, ↓tr_i, ↓tr_n, ↓tr_l, ↓tr_t, ↓tr_s, ↓bl_b, ↓in_i, ↓vl_i, ↓vl_o, ↓vl_p, ↓vl_l, ↓im_i, ↓im_o, ↓im_p, ↓wi_nil, ↓wi_c, ↓sq_l, ↓sq_f, ↓sq_t, ↓zp_ll, ↓zp_tt, ↓en_l, ↓rg_1, ↓rg_2, ↓ch_s, ↓fm_s, ↓fm_i, ↓st_0, ↓st_1, ↓st_2, ↓st_3, ↓st_4, ↓ap_l, ↓rv_o, ↓rv_p, ↓rv_i, ↓rv_l, ↓oK_nil, ↓oK_nil0, ↓oK_i, ↓oK_p, ↓oK_l, ↓g_nx, ↓g_nil, ↓g_cons, ↓g_asg, ↓g_par, ↓g_setIdx, ↓g_append, ↓g_ret, ↓g_retV, ↓g_retN, ↓g_sife, ↓g_for, ↓g_ex, ↓g_pass, ↓g_brk, ↓g_cont, ↓e_var, ↓e_cst, ↓e_glo, ↓e_op, ↓e_call, ↓e_tup, ↓e_lst, ↓e_ife, ↓e_and, ↓e_or, ↓e_not, ↓turn_eq, ↓e_comp, ↓e_fmt, ↓e_imm, ↓f_nil, ↓f_cons, ↓s_nil, ↓s_v, ↓s_e, ↓s_n, ↓t_nil, ↓t_cons, ↓b_tt, ↓b_t, ↓b_look, ↓b_and, ↓b_or, ↓b_not, ↓i_seq, ↓i_range, ↓i_chars, ↓i_zip, ↓i_enum, ↓ix_l0, ↓ix_l1, ↓ix_l2, ↓ix_l3, ↓ix_l4, ↓ix_t0, ↓ix_t1, ↓ix_t2, ↓ix_t3, ↓o_add, ↓o_adds, ↓o_sub, ↓o_mul, ↓o_fdiv, ↓o_mod, ↓o_pow, ↓o_neg, ↓o_eq, ↓o_ne, ↓o_lt, ↓o_le, ↓o_gt, ↓o_ge, ↓o_isN, ↓o_notN, ↓o_lenl, ↓o_lent, ↓o_lenf, ↓o_lens, ↓o_abs, ↓o_toInt, ↓o_isi, ↓o_gcd, ↓o_toList, ↓o_addl, ↓o_addt, ↓q_slc11l, ↓q_slc10l, ↓q_slc01l, ↓q_slc00l, ↓q_slc11f, ↓q_slc10f, ↓q_slc01f, ↓q_slc00f, ↓q_slc11t, ↓q_slc10t, ↓q_slc01t, ↓q_slc00t, ↓q_toIntb, ↓q_toListf, ↓q_toListt, ↓q_toTuplel, ↓q_toTuplet, ↓q_slcS11, ↓q_slcS10, ↓q_slcS01, ↓q_rep, ↓q_toStr, ↓q_strip, ↓q_starts, ↓q_part, ↓q_max2, ↓q_min2, ↓q_in, ↓q_notin, ↓np_none, ↓np_imm, ↓np_own, ↓ix_f0, ↓ix_f1, ↓la_fr, ↓eq_fr, ↓fl_t0, ↓fl_t1, ↓fl_t2, ↓fl_t3, ↓ob_tb, ↓ty_tb, ↓ix_q0, ↓ix_q1, ↓ix_q2, ↓ix_q3, ↓List.any_cons, ↓List.any_nil, ↓minusE, ↓negE, ↓applE, ↓makeE, ↓addE, ↓subE, ↓negtE, ↓multE, ↓scalE, ↓entE, ↓zeroE, ↓eqtE, ↓kq_sl_sl, ↓kr_sl_sl, ↓kq_sl_tu, ↓kr_sl_tu, ↓kq_sl_mi, ↓kr_sl_mi, ↓kq_sl_st, ↓kr_sl_st, ↓kq_sl_si, ↓kr_sl_si, ↓kq_sl_ev, ↓kr_sl_ev, ↓kq_tu_sl, ↓kr_tu_sl, ↓kq_tu_tu, ↓kr_tu_tu, ↓kq_tu_mi, ↓kr_tu_mi, ↓kq_tu_st, ↓kr_tu_st, ↓kq_tu_si, ↓kr_tu_si, ↓kq_tu_ev, ↓kr_tu_ev, ↓kq_mi_sl, ↓kr_mi_sl, ↓kq_mi_tu, ↓kr_mi_tu, ↓kq_mi_mi, ↓kr_mi_mi, ↓kq_mi_st, ↓kr_mi_st, ↓kq_mi_si, ↓kr_mi_si, ↓kq_mi_ev, ↓kr_mi_ev, ↓kq_st_sl, ↓kr_st_sl, ↓kq_st_tu, ↓kr_st_tu, ↓kq_st_mi, ↓kr_st_mi, ↓kq_st_st, ↓kr_st_st, ↓kq_st_si, ↓kr_st_si, ↓kq_st_ev, ↓kr_st_ev, ↓kq_si_sl, ↓kr_si_sl, ↓kq_si_tu, ↓kr_si_tu, ↓kq_si_mi, ↓kr_si_mi, ↓kq_si_st, ↓kr_si_st, ↓kq_si_si, ↓kr_si_si, ↓kq_si_ev, ↓kr_si_ev, ↓kq_ev_sl, ↓kr_ev_sl, ↓kq_ev_tu, ↓kr_ev_tu, ↓kq_ev_mi, ↓kr_ev_mi, ↓kq_ev_st, ↓kr_ev_st, ↓kq_ev_si, ↓kr_ev_si, ↓kq_ev_ev, ↓kr_ev_ev, ↓lk_sl, ↓lk_tu, ↓lk_mi, ↓lk_st, ↓lk_si, ↓lk_ev, ↓la_wd, ↓la_w2a, ↓la_w2b, ↓am_1, ↓am_2, ↓am_4, ↓timesEm, ↓plusE1, ↓longE, ↓kfE, ↓kcE, ↓filE, ↓tabE, ↓tabP, ↓madeE, ↓readE2, ↓ownE, ↓fitE, ↓wordsE, ↓isKE, ↓tabTu, ↓tabSE, ↓ownSE, ↓fitSE, ↓numE, ↓judE, ↓own_tab, ↓e_meth, ↓ob_1, ↓ob_2a, ↓ob_2b, ↓g_setFld, ↓g_insert, ↓ins_l, ↓sf_o, ↓pf_n, ↓pf_c, ↓fd_c, ↓o_fldo, ↓o_flde, ↓q_int, ↓q_notint, ↓q_idxw, ↓e_pure, ↓cm_n, ↓cm_c, ↓cm_0, ↓e_take, ↓tk_o, ↓tk_i, ↓ix_t4, at_0, at_S, set_0, set_S, lk_i, lk_o, lk_p, lk_l, re_nil, re_xi, re_xo, re_v, fl_i, fl_o, fl_p, fl_l, ar_nil, ar_x, ar_v, bk_nil, bk_x, bk_i, wr_S, wr_0f, wr_0o, wr_0p, bk_p, bk_l, as_0, as_S, as_vs, as_c, pu_c, tr_b, tr_i, tr_n, tr_l, tr_t, tr_s, bl_b, in_i, vl_i, vl_o, vl_p, vl_l, im_i, im_o, im_p, wi_nil, wi_c, sq_l, sq_f, sq_t, zp_ll, zp_tt, en_l, rg_1, rg_2, ch_s, fm_s, fm_i, st_0, st_1, st_2, st_3, st_4, ap_l, rv_o, rv_p, rv_i, rv_l, oK_nil, oK_nil0, oK_i, oK_p, oK_l, g_nx, g_nil, g_cons, g_asg, g_par, g_setIdx, g_append, g_ret, g_retV, g_retN, g_sife, g_for, g_ex, g_pass, g_brk, g_cont, e_var, e_cst, e_glo, e_op, e_call, e_tup, e_lst, e_ife, e_and, e_or, e_not, turn_eq, e_comp, e_fmt, e_imm, f_nil, f_cons, s_nil, s_v, s_e, s_n, t_nil, t_cons, b_tt, b_t, b_look, b_and, b_or, b_not, i_seq, i_range, i_chars, i_zip, i_enum, ix_l0, ix_l1, ix_l2, ix_l3, ix_l4, ix_t0, ix_t1, ix_t2, ix_t3, o_add, o_adds, o_sub, o_mul, o_fdiv, o_mod, o_pow, o_neg, o_eq, o_ne, o_lt, o_le, o_gt, o_ge, o_isN, o_notN, o_lenl, o_lent, o_lenf, o_lens, o_abs, o_toInt, o_isi, o_gcd, o_toList, o_addl, o_addt, q_slc11l, q_slc10l, q_slc01l, q_slc00l, q_slc11f, q_slc10f, q_slc01f, q_slc00f, q_slc11t, q_slc10t, q_slc01t, q_slc00t, q_toIntb, q_toListf, q_toListt, q_toTuplel, q_toTuplet, q_slcS11, q_slcS10, q_slcS01, q_rep, q_toStr, q_strip, q_starts, q_part, q_max2, q_min2, q_in, q_notin, o_idxl, o_idxf, o_idxt, o_idxs, o_all, q_any, q_sum, q_toIntS, q_inS, st_n, Option.map_some, ex_sb, ex_sl, ex_some, ex_some2, ex_rg, ex_true, bl_ex, tr_bl, tr_int, tr_non, tr_lst, tr_tup, eq_bl, eq_int, eq_str, eq_non, la_bl, la_int, la_non, beq_self_eq_true, ou_nil, ou_imm, ou_par, ou_parl, ow_nil, ow_x, ow_v, oi_o, oi_p, oi_i, oi_l, nodupB, wb_nil, wb_c, wpi_n, wpi_i, wpi_o, r_at0, r_atS, r_put0, r_putS, List.contains_nil, List.contains_cons, List.reverse_cons, List.reverse_nil, List.nil_append, List.cons_append, List.set_cons_zero, List.set_cons_succ, true_and, and_true, if_true, if_false, Bool.false_eq_true, Bool.not_true, Bool.not_false, Bool.and_true, Bool.true_and, Bool.and_false, Bool.false_and, Bool.or_false, Bool.false_or, Bool.or_true, Bool.true_or, List.any_cons, List.any_nil, hasTy, ownF, reduceCtorEq, forP_nil, np_none, np_imm, np_own, a_0, a_1, a_2, a_3, a_4, a_5, a_6, a_7, i_0, i_1, i_2, i_3, i_4, i_5, i_6, i_7, List.map_cons, List.map_nil, imms, List.length_cons, List.length_nil, ix_f0, ix_f1, la_fr, eq_fr, fl_t0, fl_t1, fl_t2, fl_t3, ob_tb, ty_tb, ix_q0, ix_q1, ix_q2, ix_q3, List.any_cons, List.any_nil, minusE, negE, applE, makeE, addE, subE, negtE, multE, scalE, entE, zeroE, eqtE, kq_sl_sl, kr_sl_sl, kq_sl_tu, kr_sl_tu, kq_sl_mi, kr_sl_mi, kq_sl_st, kr_sl_st, kq_sl_si, kr_sl_si, kq_sl_ev, kr_sl_ev, kq_tu_sl, kr_tu_sl, kq_tu_tu, kr_tu_tu, kq_tu_mi, kr_tu_mi, kq_tu_st, kr_tu_st, kq_tu_si, kr_tu_si, kq_tu_ev, kr_tu_ev, kq_mi_sl, kr_mi_sl, kq_mi_tu, kr_mi_tu, kq_mi_mi, kr_mi_mi, kq_mi_st, kr_mi_st, kq_mi_si, kr_mi_si, kq_mi_ev, kr_mi_ev, kq_st_sl, kr_st_sl, kq_st_tu, kr_st_tu, kq_st_mi, kr_st_mi, kq_st_st, kr_st_st, kq_st_si, kr_st_si, kq_st_ev, kr_st_ev, kq_si_sl, kr_si_sl, kq_si_tu, kr_si_tu, kq_si_mi, kr_si_mi, kq_si_st, kr_si_st, kq_si_si, kr_si_si, kq_si_ev, kr_si_ev, kq_ev_sl, kr_ev_sl, kq_ev_tu, kr_ev_tu, kq_ev_mi, kr_ev_mi, kq_ev_st, kr_ev_st, kq_ev_si, kr_ev_si, kq_ev_ev, kr_ev_ev, lk_sl, lk_tu, lk_mi, lk_st, lk_si, lk_ev, la_wd, la_w2a, la_w2b, am_1, am_2, am_4, timesEm, plusE1, longE, kfE, kcE, filE, tabE, tabP, madeE, readE2, ownE, fitE, wordsE, isKE, tabTu, tabSE, ownSE, fitSE, numE, judE, own_tab, drawE, pickE, lowE, plusE, timesE, textE, readE, t_whole, t_isfr, isspE, t_common, e_meth, ob_1, ob_2a, ob_2b, g_setFld, g_insert, ins_l, sf_o, pf_n, pf_c, fd_c, o_fldo, o_flde, q_int, q_notint, q_idxw, e_pure, cm_n, cm_c, cm_0, e_take, tk_o, tk_i, ix_t4, Nat.reduceEqDiff, eq_self, flatD, fT0, fT1, fT2, fT3, fT4, bT0, bT1, bT2, *]))
local macro_rules | `(tactic| walk_at "c") => `(tactic| repeat (refine And.intro (by first | decide +kernel | omega | (simp only [line]; omega)) ?_))
local macro_rules | `(tactic| walk_at "s") => `(tactic| ((refine cutS fun Nx hNx => ?_); walk_at "v"))
local macro_rules | `(tactic| walk_at "n") => `(tactic| ((refine NxH.out (by assumption) _ ?_); (rw [g_nx]); (refine cutS fun Nx hNx => ?_); walk_at "v"))
local macro_rules | `(tactic| walk_at "m") => `(tactic| ((refine NxH.out (by assumption) _ ?_); walk_at "v"))
local macro_rules | `(tactic| walk_at "a") => `(tactic| ((refine cutA fun Nx hNx => ?_); walk_at "v"))
--#m4
theorem nums_sm {n : Nat} {o : Ow} (h : o.sm n) : ∀ d ∈ o.nums, ∃ x, d = fr x ∧ Sm n x := by
  intro d hd
  cases o <;> simp only [Ow.nums, List.mem_cons, List.not_mem_nil, or_false] at hd <;> first
    | (rcases hd with rfl | rfl | rfl | rfl
       · exact ⟨_, rfl, h.1⟩
       · exact ⟨_, rfl, h.2.1⟩
       · exact ⟨_, rfl, h.2.2.1⟩
       · exact ⟨_, rfl, h.2.2.2⟩)
    | (rcases hd with rfl | rfl
       · exact ⟨_, rfl, h.1⟩
       · exact ⟨_, rfl, h.2⟩)
    | (subst hd
       exact ⟨_, rfl, h⟩)
theorem prs_len (o p : Ow) : (prs o p).length < 10 := by cases o <;> cases p <;> simp [prs]
theorem law9_ok (G : Glob) (h6 : G.fn 6 = sameT 20) (h11 : G.fn 11 = pickT) (h12 : G.fn 12 = bT Z0 rSmall) (h25 : G.fn 25 = bentT) (h32 : G.fn 32 = bT Z0 rSmall) (h33 : G.fn 33 = bagT) (h39 : G.fn 39 = ownT) (h43 : G.fn 43 = filT) (h44 : G.fn 44 = kcT) (h45 : G.fn 45 = fnT rPlus) (h48 : G.fn 48 = zeroT) (h53 : G.fn 53 = wordsT) (h55 : G.fn 55 = fitT) (h59 : G.fn 59 = madeT) (h60 : G.fn 60 = negtT) (h61 : G.fn 61 = scalT) (h62 : G.fn 62 = subT) (h63 : G.fn 63 = addT) (h64 : G.fn 64 = judT) (h65 : G.fn 65 = bT Z0 fun _ r => ∃ t : Q4, r = t4 t ∧ SmQ 42 t) (h66 : G.fn 66 = numT) (h67 : G.fn 67 = bT Z0 fun _ r => r = .bl true) : Ok G 1 15 b_law_1 lawT := by
  rintro as Q X ⟨ns, rfl, hl, hQ⟩
  rw [run_eq]
  refine ⟨rfl, ?_⟩
  show wpSs G b_law_1 [some (.imm, .frz (ns.map D.int)), none, none, none, none, none, none, none, none, none, none, none, none, none, none, none] _
  simp only [b_law_1]
  walk_at "s"
  refine ⟨ns, rfl, hl, fun bag hb => ?_⟩
  walk_at "v"
  walk_at "n"
  rintro _ bag1 rfl hb1
  walk_at "v"
  rintro _ bag2 rfl hb2
  walk_at "v"
  clear hb hb1
  walk_at "n"
  refine ⟨⟨by decide, by decide⟩, ?_⟩
  refine forP_inv (fun _ ρ => ∃ bag o2 o3 o4 o5 o6 o7 o8 o9 o10 o11, ρ = [some (.imm, .frz (ns.map D.int)), some (.own, bag), o2, o3, o4, o5, o6, o7, o8, o9, o10, o11, none, none, none, none] ∧ Bag bag ∧ Sl o2 ∧ Sl o3 ∧ Sl o4 ∧ Sl o5 ∧ Sl o6 ∧ Sl o7 ∧ Sl o8 ∧ Sl o9 ∧ Sl o10 ∧ Sl o11) _ ⟨bag2, _, _, _, _, _, _, _, _, _, _, rfl, hb2, sl_none, sl_none, sl_none, sl_none, sl_none, sl_none, sl_none, sl_none, sl_none, sl_none⟩ ?_ ?_
  · rintro d ds _ K ⟨bag, o2, o3, o4, o5, o6, o7, o8, o9, o10, o11, rfl, hb, s2, s3, s4, s5, s6, s7, s8, s9, s10, s11⟩ hK
    have s2 := fun R => s2 R
    have s3 := fun R => s3 R
    have s4 := fun R => s4 R
    have s5 := fun R => s5 R
    have s6 := fun R => s6 R
    have s7 := fun R => s7 R
    have s8 := fun R => s8 R
    have s9 := fun R => s9 R
    have s10 := fun R => s10 R
    have s11 := fun R => s11 R
    replace hK := Hid.mk hK
    walk_at "a"
    walk_at "n"
    refine ⟨by simp [kts], by decide, fun d bag1 hd hb1 => ?_⟩
    obtain ⟨k, rfl⟩ := kts_mem hd
    clear hb
    walk_at "v"
    walk_at "n"
    have kn : k.n ≤ 4 := by cases k <;> decide
    refine ⟨⟨by omega, by omega⟩, by rw [rangeI_len]; simp only [line]; omega, ?_⟩
    refine forP_inv (fun its a => ∃ acc bag, a = (acc, [some (.imm, .frz (ns.map D.int)), some (.own, bag), some (.imm, d), some (.imm, .str k.wd), o4, o5, o6, o7, o8, o9, o10, o11, none, none, none, none]) ∧ Bag bag ∧ acc.length + its.length = k.n ∧ ∀ e ∈ acc, ∃ x, e = fr x ∧ Sm 21 x) _ ⟨[], bag1, rfl, hb1, by rw [rangeI_len]; simp, by simp⟩ ?_ ?_
    · rintro e es ⟨_, _⟩ K2 ⟨acc, bag, ea, hb, h1, h2⟩ hK2
      cases ea
      replace hK2 := Hid.mk hK2
      replace h2 := Hid.mk h2
      simp only [List.length_cons] at h1
      walk_at "v"
      rintro _ bag2 ⟨x, rfl, hx⟩ hb2
      walk_at "v"
      rintro _ bag3 ⟨y, rfl, hy⟩ hb3
      walk_at "v"
      refine ⟨by simp, by decide, fun u bag4 hu hb4 => ?_⟩
      have hu' : ∃ z, u = fr z ∧ Sm 21 z := by
        simp only [List.mem_cons, List.not_mem_nil, or_false] at hu
        rcases hu with rfl | rfl
        · exact ⟨_, rfl, hx⟩
        · exact ⟨_, rfl, hy⟩
      obtain ⟨z, rfl, hz⟩ := hu'
      walk_at "v"
      refine hK2.out _ ⟨_, _, rfl, hb4, ?_, fun e he => ?_⟩
      · simp only [List.length_append, List.length_cons, List.length_nil]
        omega
      · rcases List.mem_append.mp he with he | he
        · exact h2.out e he
        · exact ⟨z, List.mem_singleton.mp he, hz⟩
    rintro ⟨_, _⟩ ⟨acc, bag2, ea, hb2, h1, h2⟩
    cases ea
    obtain ⟨o, ok, on, os⟩ := nums_of k _ 21 (by simpa using h1) h2
    subst ok on
    clear h1 h2 hb1 hd kn
    walk_at "v"
    walk_at "n"
    have kn : o.kd.n ≤ 4 := by
      generalize o.kd = k
      cases k <;> decide
    obtain ⟨x0, l0, e0⟩ := nums_cons o
    have at0 : atI o.nums 0 = some (fr x0) := by rw [e0]; exact a_0
    have sx0 : Sm 21 x0 := by
      obtain ⟨y, e1, hy⟩ := nums_sm os (fr x0) (by rw [e0]; exact List.mem_cons_self ..)
      rw [fr_inj e1]
      exact hy
    clear e0
    refine ⟨⟨by omega, by omega⟩, by rw [rangeI_len]; simp only [line]; omega, ?_⟩
    refine forP_inv (fun its a => ∃ acc bag, a = (acc, [some (.imm, .frz (ns.map D.int)), some (.own, bag), some (.imm, d), some (.imm, .str o.kd.wd), some (.own, .lst o.nums), o5, o6, o7, o8, o9, o10, o11, none, none, none, none]) ∧ Bag bag ∧ acc.length + its.length = o.kd.n ∧ ∀ e ∈ acc, ∃ x, e = fr x ∧ Sm 21 x) _ ⟨[], bag2, rfl, hb2, by rw [rangeI_len]; simp, by simp⟩ ?_ ?_
    · rintro e es ⟨_, _⟩ K2 ⟨acc, bag, ea, hb, h1, h2⟩ hK2
      cases ea
      replace hK2 := Hid.mk hK2
      replace h2 := Hid.mk h2
      simp only [List.length_cons] at h1
      walk_at "v"
      rintro _ bag2 ⟨x, rfl, hx⟩ hb2
      walk_at "v"
      refine ⟨by simp, by decide, fun u bag4 hu hb4 => ?_⟩
      have hu' : ∃ z, u = fr z ∧ Sm 21 z := by
        simp only [List.mem_cons, List.not_mem_nil, or_false] at hu
        rcases hu with rfl | rfl | rfl
        · exact ⟨_, rfl, hx⟩
        · exact ⟨_, rfl, sx0⟩
        · exact ⟨0, rfl, sm_zero⟩
      obtain ⟨z, rfl, hz⟩ := hu'
      walk_at "v"
      refine hK2.out _ ⟨_, _, rfl, hb4, ?_, fun e he => ?_⟩
      · simp only [List.length_append, List.length_cons, List.length_nil]
        omega
      · rcases List.mem_append.mp he with he | he
        · exact h2.out e he
        · exact ⟨z, List.mem_singleton.mp he, hz⟩
    rintro ⟨_, _⟩ ⟨acc, bag3, ea, hb3, h1, h2⟩
    cases ea
    obtain ⟨p, pk, pn, ps⟩ := nums_of o.kd _ 21 (by simpa using h1) h2
    subst pn
    clear h1 h2 hb2 kn at0 sx0
    have n1 := fun Q X => @numE Q X p
    have n2 := fun Q X => @filE Q X p
    rw [pk] at n1 n2
    have os2 := sm_up os (show 21 ≤ 2000 by decide)
    have ps2 := sm_up ps (show 21 ≤ 2000 by decide)
    have to := tab_sm os
    have tp := tab_sm ps
    replace os := Hid.mk os
    replace ps := Hid.mk ps
    replace to := Hid.mk to
    replace tp := Hid.mk tp
    walk_at "v"
    walk_at "n"
    walk_at "n"
    rintro _ bag4 ⟨w, rfl, hw⟩ hb4
    clear hb3
    walk_at "v"
    unfold bentT at h25
    walk_at "n"
    refine ⟨⟨o.tab, 21, rfl, to.out, by decide, by decide⟩, ?_⟩
    intro r bag5 hr hb5
    obtain ⟨s1, rfl, hs1⟩ := hr _ _ rfl to.out (by decide)
    clear hb4 hr
    walk_at "v"
    refine ⟨⟨p.tab, 21, rfl, tp.out, by decide, by decide⟩, ?_⟩
    intro r bag6 hr hb6
    obtain ⟨s2, rfl, hs2⟩ := hr _ _ rfl tp.out (by decide)
    clear hb5 hr
    walk_at "v"
    refine ⟨⟨o.tab, 21, rfl, to.out, by decide, by decide⟩, ?_⟩
    intro r bag7 hr hb7
    obtain ⟨s3, rfl, hs3⟩ := hr _ _ rfl to.out (by decide)
    clear hb6 hr
    walk_at "v"
    refine ⟨⟨s3, 43, rfl, hs3, by decide, by decide⟩, ?_⟩
    intro r bag8 hr hb8
    obtain ⟨s4, rfl, hs4⟩ := hr _ _ rfl hs3 (by decide)
    clear hb7 hr
    walk_at "v"
    rintro _ bag9 ⟨s5, rfl, hs5⟩ hb9
    clear hb8
    walk_at "v"
    walk_at "n"
    have mem6 : ∀ e ∈ [t4 o.tab, t4 p.tab, t4 s1, t4 s2, t4 s4, t4 s5], ∃ t, e = t4 t ∧ SmQ 2000 t := by
      intro e he
      simp only [List.mem_cons, List.not_mem_nil, or_false] at he
      rcases he with rfl | rfl | rfl | rfl | rfl | rfl
      · exact ⟨_, rfl, smQ_mono to.out (by decide)⟩
      · exact ⟨_, rfl, smQ_mono tp.out (by decide)⟩
      · exact ⟨_, rfl, smQ_mono hs1 (by decide)⟩
      · exact ⟨_, rfl, smQ_mono hs2 (by decide)⟩
      · exact ⟨_, rfl, smQ_mono hs4 (by decide)⟩
      · exact ⟨_, rfl, smQ_mono hs5 (by decide)⟩
    clear hs1 hs2 hs3 hs4 hs5
    refine ⟨by decide, ?_⟩
    refine forP_map (fun _ => .bl true) [] (fun e he acc K2 hK2 => ?_) ?_
    · obtain ⟨t, rfl, ht⟩ := mem6 e he
      replace mem6 := Hid.mk mem6
      walk_at "v"
    clear mem6
    have b6 : bools? [.bl true, .bl true, .bl true, .bl true, .bl true, .bl true] = some [true, true, true, true, true, true] := rfl
    have a6 : List.all [true, true, true, true, true, true] id = true := rfl
    walk_at "v"
    have to6 := smQ_mono to.out (show 21 ≤ 600 by decide)
    have tp6 := smQ_mono tp.out (show 21 ≤ 600 by decide)
    have sw := sm_mono hw (show 21 ≤ 600 by decide)
    walk_at "n"
    walk_at "n"
    obtain ⟨pr1, pr2, pr3, pr4, pr5⟩ := pairs pk.symm
    have mem5 : ∀ e ∈ [tb (o.tab.1 + p.tab.1, o.tab.2.1 + p.tab.2.1, o.tab.2.2.1 + p.tab.2.2.1, o.tab.2.2.2 + p.tab.2.2.2), tb (o.tab.1 - p.tab.1, o.tab.2.1 - p.tab.2.1, o.tab.2.2.1 - p.tab.2.2.1, o.tab.2.2.2 - p.tab.2.2.2), tb (o.tab.1 * w, o.tab.2.1 * w, o.tab.2.2.1 * w, o.tab.2.2.2 * w), tb (0, 0, 0, 0), tb (-p.tab.1, -p.tab.2.1, -p.tab.2.2.1, -p.tab.2.2.2)], ∃ t, e = tb t ∧ decide ((rd o.kd t).tab = t) = true := by
      intro e he
      simp only [List.mem_cons, List.not_mem_nil, or_false] at he
      rcases he with rfl | rfl | rfl | rfl | rfl
      · exact ⟨_, rfl, decide_eq_true pr2⟩
      · exact ⟨_, rfl, decide_eq_true pr4⟩
      · exact ⟨_, rfl, decide_eq_true (scaled_fit o w)⟩
      · exact ⟨_, rfl, decide_eq_true (zero_fit o.kd)⟩
      · exact ⟨_, rfl, decide_eq_true (by have z := neg_fit p; rw [pk] at z; exact z)⟩
    have own5 : ownD o.kd (o.tab.1 + p.tab.1, o.tab.2.1 + p.tab.2.1, o.tab.2.2.1 + p.tab.2.2.1, o.tab.2.2.2 + p.tab.2.2.2) = (.own, .lst ((prs o p).map fun q => fr (q.1 + q.2))) := by
      have z : ownD o.kd (addQ o.tab p.tab) = (.own, .lst ((prs o p).map fun q => fr (q.1 + q.2))) := by
        unfold ownD
        rw [if_pos pr2, pr3]
      exact z
    clear pr2 pr3 pr4
    replace pr1 := Hid.mk pr1
    replace pr5 := Hid.mk pr5
    replace mem5 := Hid.mk mem5
    replace own5 := Hid.mk own5
    refine ⟨by decide, ?_⟩
    refine forP_map (fun _ => .bl true) [] (fun e he acc K2 hK2 => ?_) ?_
    · obtain ⟨t, rfl, ht⟩ := mem5.out e he
      clear he
      walk_at "v"
      refine sameE (d := .bl true) la_bl sz_bl ?_
      walk_at "v"
    have b5 : bools? [.bl true, .bl true, .bl true, .bl true, .bl true] = some [true, true, true, true, true] := rfl
    have a5 : List.all [true, true, true, true, true] id = true := rfl
    walk_at "v"
    walk_at "n"
    rw [pr1.out]
    refine ⟨by rw [List.length_map]; have := prs_len o p; simp only [line]; omega, ?_⟩
    refine forP_mapa (l := prs o p) (fun q => .tup [fr q.1, fr q.2]) (fun q => fr (q.1 + q.2)) [] (fun q hq acc K2 hK2 => ?_) ?_
    · obtain ⟨q1, q2⟩ := pr5.out 21 os.out ps.out q hq
      have q3 : ∃ k, k < 3000 ∧ 0 < k ∧ Sm k q.1 ∧ Sm k q.2 := ⟨21, by decide, by decide, q1, q2⟩
      clear hq
      walk_at "v"
    have own6 := own5.out
    walk_at "v"
    walk_at "n"
    have pl := prs_len o p
    refine sameE (n := 20) (d := .lst ((prs o p).map fun q => fr (q.1 + q.2))) (lay_l (List.all_eq_true.mpr fun e he => by
      obtain ⟨q, _, rfl⟩ := List.mem_map.mp he
      exact la_fr (n := 18))) (sz_l (by rw [List.length_map]; omega) (List.all_eq_true.mpr fun e he => by
      obtain ⟨q, _, rfl⟩ := List.mem_map.mp he
      exact sz_fr 18 _)) ?_
    walk_at "v"
    walk_at "m"
    exact hK.out _ ⟨_, _, _, _, _, _, _, _, _, _, _, rfl, hb9, sl_imm, sl_imm, sl_imm, sl_imm, sl_imm, sl_imm, sl_imm, sl_imm, sl_imm, sl_imm⟩
  · rintro _ ⟨bag, o2, o3, o4, o5, o6, o7, o8, o9, o10, o11, rfl, hb, s2, s3, s4, s5, s6, s7, s8, s9, s10, s11⟩
    walk_at "n"
end Lw
end Ev
set_option Elab.async false
set_option linter.all false
set_option autoImplicit false
set_option maxRecDepth 100000
set_option maxHeartbeats 1000000
/-! the head's hook: defs at any address, own facts; classes of instances -/
namespace Ev
open PySem PySem.Spec PyProof.Rows L2
structure SaysE (fa : List He.Fa) (fn : List He5.DefA) (ts : List He.Tab) (ex : PySem.W.Frag → Bool) (w : World) (K : PySem.W.Frag) : Prop where
  a : He5.SaysA fa fn K
  t : (ts.map fun t => He.dicW K (t.1 K)) = ts.map fun t => some (He.keysIn w.params t.2)
  more : ex K = true
theorem SaysE.tab {fa : List He.Fa} {fn : List He5.DefA} {ts : List He.Tab} {ex : PySem.W.Frag → Bool} {w : World} {K : PySem.W.Frag} (c : SaysE fa fn ts ex w K) (i : Nat) {t : He.Tab} (h : ts[i]? = some t := by rfl) : ∃ es n, KDict K w (t.1 K) es n := by
  have e2 : (ts.map fun t => He.dicW K (t.1 K))[i]? = (ts.map fun t => some (He.keysIn w.params t.2))[i]? := by rw [c.t]
  rw [List.getElem?_map, List.getElem?_map, h] at e2
  exact He.dicW_ok (Option.some.inj e2)
theorem saysE_of {n : Nat} {fa : List He.Fa} {fn : List He5.DefA} {ts : List He.Tab} {ex : PySem.W.Frag → Bool} {w : World} {g : Addr → Option Obj} (e : obsE n fa fn ts ex g = ((He5.valA fn, ts.map fun t => some (He.keysIn w.params t.2)), true)) : SaysE fa fn ts ex w (He.frG g (He5.asA g n)) := by
  have e1 : (obsE n fa fn ts ex g).1 = (He5.valA fn, ts.map fun t => some (He.keysIn w.params t.2)) := congrArg Prod.fst e
  have e2 : (obsE n fa fn ts ex g).2 = true := congrArg Prod.snd e
  have e3 : (obsE n fa fn ts ex g).1.1 = He5.valA fn := congrArg Prod.fst e1
  have e4 : (obsE n fa fn ts ex g).1.2 = ts.map fun t => some (He.keysIn w.params t.2) := congrArg Prod.snd e1
  exact ⟨e3, e4, e2⟩
def hookE (n : Nat) (fa : List He.Fa) (fn : List He5.DefA) (ts : List He.Tab) (ex : PySem.W.Frag → Bool) : PySem.W.Hook where
  α := AlE
  obs := fun s => obsE n fa fn ts ex s.heap.get?
  val := fun w => ((He5.valA fn, ts.map fun t => some (He.keysIn w.params t.2)), true)
  says := fun w h => ∃ K : PySem.W.Frag, K.In h ∧ SaysE fa fn ts ex w K
  of := fun _ _ e => ⟨_, He.frG_in, saysE_of e⟩
  keeps := fun _ _ _ ⟨K, hK, c⟩ k => ⟨K, PySem.W.Frag.In.keeps hK k, c⟩
theorem obsE_eq {n : Nat} {fa : List He.Fa} {fn : List He5.DefA} {ts : List He.Tab} {ex : PySem.W.Frag → Bool} {g : Addr → Option Obj} {s : Shared} (h : ∀ a, g a = s.heap.get? a) : obsE n fa fn ts ex g = (hookE n fa fn ts ex).obs s := by
  have e : g = s.heap.get? := funext h
  rw [e] <;> rfl
section
variable {K : PySem.W.Frag} {C : Addr}
theorem kitcB_ok (c : Cls K C) (h : kitcB K C = true) : KitC K C := by
  unfold kitcB at h
  simp only [Bool.and_eq_true, decide_eq_true_eq, List.all_eq_true, kitB] at h
  obtain ⟨h1, h2, h3, h4, h5⟩ := h
  exact ⟨c, He.eqO_ok h1, He.eqO_ok h2, h3, h4, h5⟩
theorem kittB_ok (h : kittB K C = true) : KitT K C := by
  unfold kittB at h
  simp only [decide_eq_true_eq, List.all_eq_true] at h
  exact ⟨h⟩
theorem statB_ok {m : Str} (h : statB K C m = true) : StatOf K C m (He5.wf K C "staticmethod" m) := by
  unfold statB at h
  simp only [Bool.and_eq_true, decide_eq_true_eq] at h
  obtain ⟨h1, h2, h3, h4, h5⟩ := h
  obtain ⟨w1, w2⟩ := He5.wrapB_ok h4
  exact ⟨He.eqO_ok h1, ⟨_, h2, h3, _, w1, w2⟩, h5⟩
theorem propB_ok {m : Str} (h : propB K C m = true) : PropOf K C m (He.ma K C m) (He5.wf K C "property" m) := by
  unfold propB at h
  simp only [Bool.and_eq_true, decide_eq_true_eq] at h
  obtain ⟨h1, h2, h3, h4⟩ := h
  refine ⟨He.eqO_ok h1, He.eqO_ok h2, h3, ?_⟩
  unfold He5.wf
  split at h4
  · rename_i f r e
    exact ⟨r, by rw [e]⟩
  · cases h4
/-! a constant of the module -/
mutual
theorem kstB_ok {N : Nm} : ∀ (d : D) (u : Value), kstB N.K d u = true → ∃ v, RelV v u ∧ ∀ I H, Rep N I H d v
  | .non, u, h => by
    cases u <;> first | (unfold kstB at h; cases h; done) | exact ⟨.non, rfl, fun _ _ => rfl⟩
  | .bl b, u, h => by
    cases u <;> first
      | (unfold kstB at h; cases h; done)
      | (unfold kstB at h
         obtain rfl := eq_of_beq h
         exact ⟨.bl b, rfl, fun _ _ => rfl⟩)
  | .int i, u, h => by
    cases u <;> first
      | (unfold kstB at h; cases h; done)
      | (unfold kstB at h
         obtain rfl := of_decide_eq_true h
         exact ⟨.int i, ⟨_, rfl⟩, fun _ _ => rfl⟩)
  | .str z, u, h => by
    cases u <;> first
      | (unfold kstB at h; cases h; done)
      | (unfold kstB at h
         obtain rfl := of_decide_eq_true h
         exact ⟨.str z, ⟨_, rfl⟩, fun _ _ => rfl⟩)
  | .tup ds, u, h => by
    cases u <;> first
      | (unfold kstB at h; cases h; done)
      | (rename_i p
         unfold kstB at h
         split at h
         · rename_i c od its n sl e
           simp only [Bool.and_eq_true, decide_eq_true_eq] at h
           obtain ⟨h1, h2, h3⟩ := h
           obtain ⟨vs, rv, rl⟩ := kstL_ok ds its.toList h3
           exact ⟨.ref p, rfl, fun I H => ⟨p, vs, rfl, .inr ⟨_, its, n, e, congrArg Value.type h1, rfl, h2, rv⟩, rl I H⟩⟩
         · cases h)
  | .lst _, u, h => by cases u <;> (unfold kstB at h; cases h)
  | .frz _, u, h => by cases u <;> (unfold kstB at h; cases h)
  | .dic _, u, h => by cases u <;> (unfold kstB at h; cases h)
  | .dicw _, u, h => by cases u <;> (unfold kstB at h; cases h)
  | .obj _ _, u, h => by cases u <;> (unfold kstB at h; cases h)
  | .exc _ _ _, u, h => by cases u <;> (unfold kstB at h; cases h)
theorem kstL_ok {N : Nm} : ∀ (ds : List D) (us : List Value), kstL N.K ds us = true → ∃ vs, Vals vs us ∧ ∀ I H, RepL N I H ds vs
  | [], us, h => by
    cases us with
    | nil => exact ⟨[], .nil, fun _ _ => rfl⟩
    | cons => unfold kstL at h; cases h
  | d :: ds, us, h => by
    cases us with
    | nil => unfold kstL at h; cases h
    | cons u us =>
      unfold kstL at h
      obtain ⟨h1, h2⟩ := Bool.and_eq_true_iff.mp h
      obtain ⟨v, r, q⟩ := kstB_ok d u h1
      obtain ⟨vs, rs, qs⟩ := kstL_ok ds us h2
      exact ⟨v :: vs, .cons r rs, fun I H => ⟨v, vs, rfl, q I H, qs I H⟩⟩
end
/-- the module's name x holds d -/
theorem gkB_ok {N : Nm} {h : Heap} {mg : Str → Option Value} {x : Str} {d : D} (X : N.K.In h) (G : h.Ns mainGlobals mg) (c : gkB N.K x d = true) : ∃ u v, mg x = some u ∧ RelV v u ∧ ∀ I H, Rep N I H d v := by
  unfold gkB at c
  split at c
  · rename_i u e
    obtain ⟨v, r, q⟩ := kstB_ok d u c
    exact ⟨u, v, PySem.W.mg_of X G e, r, q⟩
  · cases c
/-- a dict of the module's top -/
theorem gdic_ok {N : Nm} {h : Heap} {mg : Str → Option Value} {x : Str} {kvs : List (Str × Int)} (X : N.K.In h) (G : h.Ns mainGlobals mg) (g : (He.Fa.glo x).ok N.K = true) (kd : ∃ es n, KDict N.K N.w (He.ga N.K x) es n) (vb : He.valsB N.K (He.ga N.K x) (kvs.map fun q => (q.1, He.Dv.int q.2)) = true) :
    ∃ u v, mg x = some u ∧ RelV v u ∧ ∀ I H, Rep N I H (.dicw (kvs.map fun q => (.str q.1, .int q.2))) v := by
  obtain ⟨es, n, kd⟩ := kd
  refine ⟨_, .ref _, He.glo_ok X G g, rfl, fun I H => ⟨_, rfl, ⟨_, kd.at_, rfl⟩, fun z d e => ?_⟩⟩
  unfold dget at e
  obtain ⟨p, hp, rfl⟩ := Option.map_eq_some_iff.mp e
  obtain ⟨q, hq, rfl⟩ := List.mem_map.mp (List.mem_of_find?_eq_some hp)
  have hz := List.find?_some hp
  have hz : (q.1 == z) = true := hz
  obtain rfl := eq_of_beq hz
  obtain ⟨u, hu, ru⟩ := He.valsB_ok vb (List.mem_map.mpr ⟨q, hq, rfl⟩)
  exact ⟨q.2, rfl, es, n, u, kd.at_, kd.lit, hu, ru⟩
/-! ### a law's tables -/
def Tbl.N (T : Tbl) (K : PySem.W.Frag) (w : World) : Nm where
  K := K
  cls := T.cls K
  fld := fldN T.fl
  ok := fun c => c ∈ T.okL
  has := fun c i => (c, i) ∈ T.hasL
  w := w
  xok := fun c an => (c, an) ∈ T.xL
def Tbl.cst (T : Tbl) (g : Nat) : Option D := match T.cn.lookup g with
  | some p => some p.2
  | none => (T.dn.lookup g).map fun p => .dicw (p.2.map fun q => (.str q.1, .int q.2))
def Tbl.cname (T : Tbl) (g : Nat) : Option Str := match T.cn.lookup g with
  | some p => some p.1
  | none => (T.dn.lookup g).map (·.1)
def Tbl.has (T : Tbl) (c i : Nat) : Bool := T.hasL.contains (c, i)
/-- the names of attributes are apart -/
def flB (l : List (Nat × Str)) : Bool := l.all fun p => p.2.cps.toList.all (· < 2000000) && l.all fun q => !(p.2 == q.2) || (p.1 == q.1)
theorem lookup_mem' {α : Type} {l : List (Nat × α)} {i : Nat} {a : α} (h : l.lookup i = some a) : (i, a) ∈ l := by
  induction l with
  | nil => cases h
  | cons p l ih =>
    obtain ⟨j, b⟩ := p
    rw [List.lookup_cons] at h
    cases q : i == j with
    | true =>
      rw [q] at h
      obtain rfl : b = a := by simpa using h
      rw [eq_of_beq q]
      exact List.mem_cons_self ..
    | false =>
      rw [q] at h
      exact List.mem_cons_of_mem _ (ih h)
theorem fldN_inj {l : List (Nat × Str)} (hb : flB l = true) {i : Nat} {n : Str} (h : l.lookup i = some n) (j : Nat) (e : fldN l j = n) : j = i := by
  have hi := List.all_eq_true.mp hb _ (lookup_mem' h)
  obtain ⟨h1, h2⟩ := Bool.and_eq_true_iff.mp hi
  unfold fldN at e
  cases q : l.lookup j with
  | some m =>
    rw [q] at e
    have e : m = n := e
    subst e
    have h3 := List.all_eq_true.mp h2 _ (lookup_mem' q)
    rw [beq_self_eq_true] at h3
    have h4 : (i == j) = true := by simpa using h3
    exact (eq_of_beq h4).symm
  | none =>
    rw [q] at e
    have e : (⟨#[2000000 + j]⟩ : Str) = n := e
    subst e
    have h3 := List.all_eq_true.mp h1 (2000000 + j) (by simp)
    have : 2000000 + j < 2000000 := of_decide_eq_true h3
    omega
/-- the dicts, for the hook -/
theorem dicts_ok {T : Tbl} {fa : List He.Fa} {fn : List He5.DefA} {ex : PySem.W.Frag → Bool} {w : World} {K : PySem.W.Frag} (c : SaysE fa fn T.ts ex w K) : ∀ p ∈ T.dn, ∃ es n, KDict K w (He.ga K p.2.1) es n := by
  intro p hp
  obtain ⟨i, hi⟩ := List.mem_iff_getElem?.mp hp
  exact c.tab i (t := (fun K => He.ga K p.2.1, p.2.2.map (·.1))) (by unfold Tbl.ts; rw [List.getElem?_map, hi]; rfl)
structure TOk (T : Tbl) (K : PySem.W.Frag) (w : World) (mg : Str → Option Value) : Prop where
  gcd : T.gcd = true → mg "gcd" = some (.builtin "math.gcd")
  blt : ∀ x ∈ bltNames, mg x = none
  glo : ∀ p ∈ T.cl, T.nm p.1 = p.2 ∧ mg p.2 = some (.ref (He.ga K p.2))
  cls : ∀ c ∈ T.okL, Cls K (T.cls K c) ∧ KitC K (T.cls K c)
  has : ∀ p ∈ T.hasL, p.1 ∈ T.okL ∧ NoAttr K (T.cls K p.1) (fldN T.fl p.2)
  exc : ∀ q ∈ T.xL, KitE K (T.cls K q.1) q.2
  kit : ∀ p ∈ T.cl, KitT K (T.cls K p.1) ∧ (∀ c ∈ T.okL, PySem.W.kitOne K (.ref (T.cls K c)) (.ref (T.cls K p.1)) = some (p.1 == c)) ∧ ∀ q ∈ T.xL, PySem.W.kitOne K (.ref (T.cls K q.1)) (.ref (T.cls K p.1)) = some (q.2.contains p.1)
  cn : ∀ p ∈ T.cn, ∃ u v, mg p.2.1 = some u ∧ RelV v u ∧ ∀ I H, Rep (T.N K w) I H p.2.2 v
  dn : ∀ p ∈ T.dn, ∃ u v, mg p.2.1 = some u ∧ RelV v u ∧ ∀ I H, Rep (T.N K w) I H (.dicw (p.2.2.map fun q => (.str q.1, .int q.2))) v
theorem tok_of {T : Tbl} {K : PySem.W.Frag} {w : World} {mg : Str → Option Value} {h : Heap} (X : K.In h) (G : h.Ns mainGlobals mg) (e : T.exB K = true) (kd : ∀ p ∈ T.dn, ∃ es n, KDict K w (He.ga K p.2.1) es n) : TOk T K w mg := by
  unfold Tbl.exB at e
  simp only [Bool.and_eq_true, List.all_eq_true, Bool.or_eq_true, Bool.not_eq_true', decide_eq_true_eq] at e
  obtain ⟨e1, e2, e3, e4, e5, e6, e7, e8, e9⟩ := e
  exact {
    gcd := fun g => PySem.W.mg_of X G (He.eqO_ok (e1.resolve_left (by rw [g]; simp)))
    blt := fun x hx => He.free_ok X G (e2 x hx)
    glo := fun p hp => ⟨(e3 p hp).1, He.glo_ok X G (e3 p hp).2⟩
    cls := fun c hc => ⟨He.cls_ok (e4 c hc).1, kitcB_ok (He.cls_ok (e4 c hc).1) (e4 c hc).2⟩
    has := fun p hp => ⟨by simpa using (e5 p hp).1, He.eqO_ok (e5 p hp).2⟩
    exc := fun q hq => kiteB_ok (e6 q hq)
    kit := fun p hp => ⟨kittB_ok (e7 p hp).1, (e7 p hp).2.1, (e7 p hp).2.2⟩
    cn := fun p hp => gkB_ok (N := T.N K w) X G (e8 p hp)
    dn := fun p hp => gdic_ok (N := T.N K w) X G (e9 p hp).1 (kd p hp) (e9 p hp).2 }
/-- one table holds the other -/
def subL {α : Type} [DecidableEq α] (l m : List (Nat × α)) : Bool := l.all fun p => decide (m.lookup p.1 = some p.2)
theorem subL_ok {α : Type} [DecidableEq α] {l m : List (Nat × α)} (h : subL l m = true) {i : Nat} {a : α} (e : l.lookup i = some a) : m.lookup i = some a := of_decide_eq_true (List.all_eq_true.mp h _ (lookup_mem' e))
def subN (l : List (Nat × Str)) (f : Nat → Option Str) : Bool := l.all fun p => decide (f p.1 = some p.2)
theorem subN_ok {l : List (Nat × Str)} {f : Nat → Option Str} (h : subN l f = true) {i : Nat} {a : Str} (e : l.lookup i = some a) : f i = some a := of_decide_eq_true (List.all_eq_true.mp h _ (lookup_mem' e))
theorem sx_of {T : Tbl} {K : PySem.W.Frag} {w : World} {mg : Str → Option Value} {P : Program} {base : Heap} {k : Nat} {cf : Cf} {G : Glob} (t : TOk T K w mg) (fb : flB T.fl = true) (nox : T.xL = [] ∨ ∀ i, cf.fl i = none) (nd : cf.N.Nodup)
    (hf : ∀ h x n ks, cf.sh h = some (x, n, ks) → ∃ f, mg x = some (.ref f) ∧ PySem.W.keepIn K (.ref f) = true ∧ CallOk P w K mg base k f n ks (spOf (T.N K w) (G.fn h)))
    (hms : ∀ h m cs n ks, cf.ms h = some (m, cs, n, ks) → MsOk P w K mg base k (T.N K w) G h m cs n ks)
    (hok : ∀ h kd cs, cf.ok h = some (kd, cs) → OpsOk P w K mg base k (T.N K w) G h cs kd)
    (hg : cf.gcd = true → T.gcd = true) (hcn : ∀ g x, cf.cn g = some x → T.cname g = some x) (hcs : ∀ g d, G.cst g = some d → T.cst g = some d) (hcl : ∀ c x, cf.cl c = some x → T.cl.lookup c = some x)
    (hfl : ∀ i n, cf.fl i = some n → T.fl.lookup i = some n) (hh : ∀ c i, G.has c i = true → (c, i) ∈ T.hasL) : SX cf G (T.N K w) P w K mg base k where
  nd := nd
  eK := rfl
  fns := hf
  cst := fun g x d e1 e2 => by
    have h1 := hcn g x e1
    have h2 := hcs g d e2
    unfold Tbl.cname at h1
    unfold Tbl.cst at h2
    cases q : T.cn.lookup g with
    | some p =>
      rw [q] at h1 h2
      cases h1
      cases h2
      exact t.cn _ (lookup_mem' q)
    | none =>
      rw [q] at h1 h2
      obtain ⟨p, hp, rfl⟩ := Option.map_eq_some_iff.mp h1
      have h2 : (T.dn.lookup g).map (fun p => D.dicw (p.2.map fun q => (.str q.1, .int q.2))) = some d := h2
      rw [hp] at h2
      cases h2
      exact t.dn _ (lookup_mem' hp)
  blt := t.blt
  gcd := fun g => t.gcd (hg g)
  kitc := fun c hc => (t.cls c hc).2
  kite := fun c an hc => t.exc _ hc
  fld := fun i n e => by
    have h1 := hfl i n e
    have e1 : fldN T.fl i = n := by unfold fldN; rw [h1]
    exact {
      fld := e1
      inj := fun j hj => fldN_inj fb h1 j hj
      exc := fun c an hx => by
        rcases nox with z | z
        · have hx : (c, an) ∈ T.xL := hx
          rw [z] at hx
          cases hx
        · rw [z i] at e
          cases e
      obj := fun c _ hc => by
        have h2 := t.has _ hc
        refine ⟨(t.cls _ h2.1).1, ?_⟩
        rw [← e1]
        exact h2.2 }
  has := hh
  wK := rfl
  ms := hms
  ok := hok
  cls := fun c x e => by
    have h1 := lookup_mem' (hcl c x e)
    obtain ⟨g1, g2⟩ := t.glo _ h1
    obtain ⟨k1, k2, k3⟩ := t.kit _ h1
    have e1 : (T.N K w).cls c = He.ga K x := by
      show He.ga K (T.nm c) = _
      rw [g1]
    exact ⟨by rw [e1]; exact g2, k1, fun c' hc => k2 c' hc, fun c' an hx => k3 _ hx⟩
end
section
variable {P : Program} {w : World} {K : PySem.W.Frag} {mg : Str → Option Value} {base : Heap} {k : Nat} {N : Nm} {G : Glob} {T : Tbl}
/-! the methods, operators that a body asks for -/
def MssOk (P : Program) (w : World) (K : PySem.W.Frag) (mg : Str → Option Value) (base : Heap) (k : Nat) (N : Nm) (G : Glob) (l : List (Nat × (Str × List Nat × Nat × List Str))) : Prop := ∀ h m cs n ks, l.lookup h = some (m, cs, n, ks) → MsOk P w K mg base k N G h m cs n ks
def OpssOk (P : Program) (w : World) (K : PySem.W.Frag) (mg : Str → Option Value) (base : Heap) (k : Nat) (N : Nm) (G : Glob) (l : List (Nat × (OpK × List Nat))) : Prop := ∀ h kd cs, l.lookup h = some (kd, cs) → OpsOk P w K mg base k N G h cs kd
theorem mss_nil : MssOk P w K mg base k N G [] := fun h m cs n ks e => by cases e
theorem opss_nil : OpssOk P w K mg base k N G [] := fun h kd cs e => by cases e
theorem mss_cons {h0 : Nat} {q : Str × List Nat × Nat × List Str} {l : List (Nat × (Str × List Nat × Nat × List Str))} (a : MsOk P w K mg base k N G h0 q.1 q.2.1 q.2.2.1 q.2.2.2) (r : MssOk P w K mg base k N G l) : MssOk P w K mg base k N G ((h0, q) :: l) := fun h m cs n ks e => by
  rw [List.lookup_cons] at e
  cases z : h == h0 with
  | true =>
    rw [z] at e
    cases e
    rw [eq_of_beq z]
    exact a
  | false =>
    rw [z] at e
    exact r h m cs n ks e
theorem opss_cons {h0 : Nat} {q : OpK × List Nat} {l : List (Nat × (OpK × List Nat))} (a : OpsOk P w K mg base k N G h0 q.2 q.1) (r : OpssOk P w K mg base k N G l) : OpssOk P w K mg base k N G ((h0, q) :: l) := fun h kd cs e => by
  rw [List.lookup_cons] at e
  cases z : h == h0 with
  | true =>
    rw [z] at e
    cases e
    rw [eq_of_beq z]
    exact a
  | false =>
    rw [z] at e
    exact r h kd cs e
theorem ms_one {h c n j : Nat} {m : Str} {ks : List Str} {f : Addr} (t : TOk T K w mg) (hc : T.okL.contains c = true) (hm : T.hasL.all (fun p => decide (fldN T.fl p.2 ≠ m)) = true) (M : Meth K (T.cls K c) m f) (C : CallOk P w K mg base j f (n + 1) ks (spOf (T.N K w) (G.fn h))) (hj : j ≤ k) : MsOk P w K mg base k (T.N K w) G h m [c] n ks := fun c' hc' _ => by
  have e : c' = c := by simpa using hc'
  subst e
  exact ⟨fun i hi => of_decide_eq_true (List.all_eq_true.mp hm _ hi), (t.cls _ (by simpa using hc)).1, f, M, callOk_mono C hj⟩
theorem op_bin {h c j : Nat} {o : Operator} {f : Addr} (hT : ∀ as Q X, G.fn h as Q X → TwoObj [c] as) (hs : PySem.W.selfFirst K (T.cls K c) = true) (M : Meth K (T.cls K c) (PySem.dunder o.info.2) f) (C : CallOk P w K mg base j f 2 [] (spOf (T.N K w) (G.fn h))) (hj : j ≤ k) : OpsOk P w K mg base k (T.N K w) G h [c] (.bin o) := by
  refine ⟨hT, fun c' hc' _ => ?_⟩
  have e : c' = c := by simpa using hc'
  subst e
  exact ⟨hs, f, M.at_, M.fn, callOk_mono C hj⟩
theorem op_eq {h c j : Nat} {f : Addr} (hT : ∀ as Q X, G.fn h as Q X → TwoObj [c] as ∧ G.fn h as (fun r o => Q r o ∧ ∃ b, r = (.imm, .bl b)) X) (M : Meth K (T.cls K c) "__eq__" f) (C : CallOk P w K mg base j f 2 [] (spOf (T.N K w) (G.fn h))) (hj : j ≤ k) : OpsOk P w K mg base k (T.N K w) G h [c] .eq := by
  refine ⟨hT, fun c' hc' _ => ?_⟩
  have e : c' = c := by simpa using hc'
  subst e
  exact ⟨f, M.at_, M.fn, callOk_mono C hj⟩
theorem op_neg {h c j : Nat} {f : Addr} (hT : ∀ as Q X, G.fn h as Q X → OneObj [c] as) (M : Meth K (T.cls K c) "__neg__" f) (C : CallOk P w K mg base j f 1 [] (spOf (T.N K w) (G.fn h))) (hj : j ≤ k) : OpsOk P w K mg base k (T.N K w) G h [c] .neg := by
  refine ⟨hT, fun c' hc' _ => ?_⟩
  have e : c' = c := by simpa using hc'
  subst e
  exact ⟨f, M.at_, M.fn, callOk_mono C hj⟩
theorem op_prop {h c j : Nat} {x : Str} {p g : Addr} (t : TOk T K w mg) (hc : T.okL.contains c = true) (hT : ∀ as Q X, G.fn h as Q X → OneObj [c] as ∧ G.fn h as Q fun _ _ => False) (M : PropOf K (T.cls K c) x p g) (C : CallOk P w K mg base j g 1 [] (spOf (T.N K w) (G.fn h))) (hj : j + 1 ≤ k) : OpsOk P w K mg base k (T.N K w) G h [c] (.prop x) := by
  refine ⟨hT, j, hj, fun c' hc' _ => ?_⟩
  have e : c' = c := by simpa using hc'
  subst e
  exact ⟨(t.cls _ (by simpa using hc)).1, p, g, M, C⟩
theorem op_stat {h n j : Nat} {x m : Str} {ks : List Str} {Ca f : Addr} (g : mg x = some (.ref Ca)) (S : StatOf K Ca m f) (C : CallOk P w K mg base j f n ks (spOf N (G.fn h))) (hj : j ≤ k) : OpsOk P w K mg base k N G h [] (.stat x m n ks) := ⟨Ca, f, g, S, callOk_mono C hj⟩
end
end Ev
set_option Elab.async false
set_option linter.all false
set_option autoImplicit false
set_option maxRecDepth 100000
set_option maxHeartbeats 1000000
/-! promises as calls by names ask for them; what a class's constructor promises -/
namespace Ev
namespace Lw
open PySem PySem.Spec PyProof.Rows L2
theorem pT_arr1 {α : Type} {g : α → D} {pre : α → Prop} {res : α → D} {as : List Val} {Q : Val → List Val → Prop} {X : D → List Val → Prop} (h : pT (fun a => [g a]) pre res as Q X) : arrT [.inl 0] [] (pT (fun a => [g a]) pre res) as Q X := by
  obtain ⟨a, rfl, hp, hq⟩ := h
  refine ⟨fun b hb => ?_, [(.imm, g a)], rfl, a, rfl, hp, hq⟩
  have hb : b ∈ [((.imm, g a) : Val)] := hb
  rw [List.mem_singleton.mp hb]
theorem pT_sw2 {α : Type} {g1 g2 : α → D} {pre : α → Prop} {res : α → D} {as : List Val} {Q : Val → List Val → Prop} {X : D → List Val → Prop} (h : pT (fun a => [g2 a, g1 a]) pre res as Q X) : arrT [.inl 1, .inl 0] [] (pT (fun a => [g1 a, g2 a]) pre res) as Q X := by
  obtain ⟨a, rfl, hp, hq⟩ := h
  refine ⟨fun b hb => ?_, [(.imm, g1 a), (.imm, g2 a)], rfl, a, rfl, hp, hq⟩
  have hb : b ∈ [((.imm, g2 a) : Val), (.imm, g1 a)] := hb
  rcases List.mem_cons.mp hb with e | e
  · rw [e]
  · rw [List.mem_singleton.mp e]
theorem own_sw {as : List Val} {Q : Val → List Val → Prop} {X : D → List Val → Prop} (h : ownS as Q X) : arrT [.inl 1, .inl 0] [] ownT as Q X := by
  obtain ⟨k, t, rfl, hq⟩ := h
  refine ⟨fun b hb => ?_, [(.imm, wdD k), (.imm, tb t)], rfl, k, t, rfl, hq⟩
  rcases List.mem_cons.mp hb with e | e
  · rw [e]
  · rw [List.mem_singleton.mp e]
theorem tab_sw {as : List Val} {Q : Val → List Val → Prop} {X : D → List Val → Prop} (h : tabS as Q X) : arrT [.inl 1, .inl 0] [] tabT as Q X := by
  obtain ⟨o, rfl, hq⟩ := h
  refine ⟨fun b hb => ?_, [(.imm, wdD o.kd), (.imm, .tup o.nums)], rfl, o, _, rfl, .inr (.inr rfl), hq⟩
  rcases List.mem_cons.mp hb with e | e
  · rw [e]
  · rw [List.mem_singleton.mp e]
theorem make_conv {as : List Val} {Q : Val → List Val → Prop} {X : D → List Val → Prop} (h : makeT as Q X) : objT 0 initT as Q X := by
  obtain ⟨t, rfl, _, hq⟩ := h
  exact ⟨t, rfl, _, _, _, rfl, rfl, hq⟩
theorem eqt_two {as : List Val} {Q : Val → List Val → Prop} {X : D → List Val → Prop} (h : eqtT as Q X) : TwoObj [0] as ∧ eqtT as (fun r o => Q r o ∧ ∃ b, r = (.imm, .bl b)) X := by
  obtain ⟨⟨t, s⟩, rfl, hp, hq⟩ := h
  exact ⟨⟨_, _, _, _, _, rfl, by simp⟩, (t, s), rfl, hp, hq, _, rfl⟩
theorem add_two {as : List Val} {Q : Val → List Val → Prop} {X : D → List Val → Prop} (h : addT as Q X) : TwoObj [0] as := by
  obtain ⟨⟨t, s⟩, rfl, _⟩ := h
  exact ⟨_, _, _, _, _, rfl, by simp⟩
theorem sub_two {as : List Val} {Q : Val → List Val → Prop} {X : D → List Val → Prop} (h : subT as Q X) : TwoObj [0] as := by
  obtain ⟨⟨t, s⟩, rfl, _⟩ := h
  exact ⟨_, _, _, _, _, rfl, by simp⟩
theorem mul_two {as : List Val} {Q : Val → List Val → Prop} {X : D → List Val → Prop} (h : multT as Q X) : TwoObj [0] as := by
  obtain ⟨⟨t, s⟩, rfl, _⟩ := h
  exact ⟨_, _, _, _, _, rfl, by simp⟩
theorem neg_one {as : List Val} {Q : Val → List Val → Prop} {X : D → List Val → Prop} (h : negtT as Q X) : OneObj [0] as := by
  obtain ⟨t, rfl, _⟩ := h
  exact ⟨_, _, _, rfl, by simp⟩
end Lw
end Ev
set_option Elab.async false
set_option linter.all false
set_option autoImplicit false
set_option maxRecDepth 100000
set_option maxHeartbeats 1000000
namespace Ev
namespace Lw
open PySem PySem.Spec PyProof.Rows
namespace k09
/-- _is_number -/
def s__is_number : Stmt := top 9
def n__is_number : List Str := ["value"]
def sh__is_number : List (Nat × (Str × Nat × List Str)) := []
def cf__is_number : Cf := { N := n__is_number, sh := fun h => sh__is_number.lookup h, cn := fun g => ([] : List (Nat × Str)).lookup g, cl := fun c => ([] : List (Nat × Str)).lookup c, gcd := false }
theorem c__is_number : chkSs cf__is_number (L2.defScope s__is_number) b__is_number (L2.defBody s__is_number) = true := by kernel_rfl
theorem sc__is_number : L2.FnScope n__is_number ["value"] (L2.defScope s__is_number) := ⟨rfl, rfl, rfl, by decide +kernel, rfl, by decide +kernel, by decide +kernel⟩
/-- is_fraction -/
def s_is_fraction : Stmt := top 10
def n_is_fraction : List Str := ["value", "over", "under"]
def sh_is_fraction : List (Nat × (Str × Nat × List Str)) := [(0, ("_is_number", 1, []))]
def cf_is_fraction : Cf := { N := n_is_fraction, sh := fun h => sh_is_fraction.lookup h, cn := fun g => ([] : List (Nat × Str)).lookup g, cl := fun c => ([] : List (Nat × Str)).lookup c, gcd := true }
theorem c_is_fraction : chkSs cf_is_fraction (L2.defScope s_is_fraction) b_is_fraction (L2.defBody s_is_fraction) = true := by kernel_rfl
theorem sc_is_fraction : L2.FnScope n_is_fraction ["value"] (L2.defScope s_is_fraction) := ⟨rfl, rfl, rfl, by decide +kernel, rfl, by decide +kernel, by decide +kernel⟩
/-- is_spot -/
def s_is_spot : Stmt := top 11
def n_is_spot : List Str := ["value"]
def sh_is_spot : List (Nat × (Str × Nat × List Str)) := [(1, ("is_fraction", 1, []))]
def cf_is_spot : Cf := { N := n_is_spot, sh := fun h => sh_is_spot.lookup h, cn := fun g => ([] : List (Nat × Str)).lookup g, cl := fun c => ([] : List (Nat × Str)).lookup c, gcd := false }
theorem c_is_spot : chkSs cf_is_spot (L2.defScope s_is_spot) b_is_spot (L2.defBody s_is_spot) = true := by kernel_rfl
theorem sc_is_spot : L2.FnScope n_is_spot ["value"] (L2.defScope s_is_spot) := ⟨rfl, rfl, rfl, by decide +kernel, rfl, by decide +kernel, by decide +kernel⟩
/-- fraction -/
def s_fraction : Stmt := top 12
def n_fraction : List Str := ["over", "under", "common"]
def sh_fraction : List (Nat × (Str × Nat × List Str)) := []
def cf_fraction : Cf := { N := n_fraction, sh := fun h => sh_fraction.lookup h, cn := fun g => ([] : List (Nat × Str)).lookup g, cl := fun c => ([] : List (Nat × Str)).lookup c, gcd := true }
theorem c_fraction : chkSs cf_fraction (L2.defScope s_fraction) b_fraction (L2.defBody s_fraction) = true := by kernel_rfl
theorem sc_fraction : L2.FnScope n_fraction ["over", "under"] (L2.defScope s_fraction) := ⟨rfl, rfl, rfl, by decide +kernel, rfl, by decide +kernel, by decide +kernel⟩
/-- plus -/
def s_plus : Stmt := top 13
def n_plus : List Str := ["one", "other"]
def sh_plus : List (Nat × (Str × Nat × List Str)) := [(2, ("fraction", 2, []))]
def cf_plus : Cf := { N := n_plus, sh := fun h => sh_plus.lookup h, cn := fun g => ([] : List (Nat × Str)).lookup g, cl := fun c => ([] : List (Nat × Str)).lookup c, gcd := false }
theorem c_plus : chkSs cf_plus (L2.defScope s_plus) b_plus (L2.defBody s_plus) = true := by kernel_rfl
theorem sc_plus : L2.FnScope n_plus ["one", "other"] (L2.defScope s_plus) := ⟨rfl, rfl, rfl, by decide +kernel, rfl, by decide +kernel, by decide +kernel⟩
/-- minus -/
def s_minus : Stmt := top 14
def n_minus : List Str := ["one", "other"]
def sh_minus : List (Nat × (Str × Nat × List Str)) := [(2, ("fraction", 2, []))]
def cf_minus : Cf := { N := n_minus, sh := fun h => sh_minus.lookup h, cn := fun g => ([] : List (Nat × Str)).lookup g, cl := fun c => ([] : List (Nat × Str)).lookup c, gcd := false }
theorem c_minus : chkSs cf_minus (L2.defScope s_minus) b_minus (L2.defBody s_minus) = true := by kernel_rfl
theorem sc_minus : L2.FnScope n_minus ["one", "other"] (L2.defScope s_minus) := ⟨rfl, rfl, rfl, by decide +kernel, rfl, by decide +kernel, by decide +kernel⟩
/-- times -/
def s_times : Stmt := top 15
def n_times : List Str := ["one", "other"]
def sh_times : List (Nat × (Str × Nat × List Str)) := [(2, ("fraction", 2, []))]
def cf_times : Cf := { N := n_times, sh := fun h => sh_times.lookup h, cn := fun g => ([] : List (Nat × Str)).lookup g, cl := fun c => ([] : List (Nat × Str)).lookup c, gcd := false }
theorem c_times : chkSs cf_times (L2.defScope s_times) b_times (L2.defBody s_times) = true := by kernel_rfl
theorem sc_times : L2.FnScope n_times ["one", "other"] (L2.defScope s_times) := ⟨rfl, rfl, rfl, by decide +kernel, rfl, by decide +kernel, by decide +kernel⟩
/-- negative -/
def s_negative : Stmt := top 16
def n_negative : List Str := ["one"]
def sh_negative : List (Nat × (Str × Nat × List Str)) := []
def cf_negative : Cf := { N := n_negative, sh := fun h => sh_negative.lookup h, cn := fun g => ([] : List (Nat × Str)).lookup g, cl := fun c => ([] : List (Nat × Str)).lookup c, gcd := false }
theorem c_negative : chkSs cf_negative (L2.defScope s_negative) b_negative (L2.defBody s_negative) = true := by kernel_rfl
theorem sc_negative : L2.FnScope n_negative ["one"] (L2.defScope s_negative) := ⟨rfl, rfl, rfl, by decide +kernel, rfl, by decide +kernel, by decide +kernel⟩
/-- _applied -/
def s__applied : Stmt := top 19
def n__applied : List Str := ["table", "vector", "x", "y"]
def sh__applied : List (Nat × (Str × Nat × List Str)) := [(28, ("plus", 2, [])), (29, ("times", 2, []))]
def cf__applied : Cf := { N := n__applied, sh := fun h => sh__applied.lookup h, cn := fun g => ([] : List (Nat × Str)).lookup g, cl := fun c => ([] : List (Nat × Str)).lookup c, gcd := false, fl := fun f => ([(0, "d"), (1, "c"), (2, "b"), (3, "a")] : List (Nat × Str)).lookup f }
theorem c__applied : chkSs cf__applied (L2.defScope s__applied) b__applied (L2.defBody s__applied) = true := by kernel_rfl
theorem sc__applied : L2.FnScope n__applied ["table", "vector"] (L2.defScope s__applied) := ⟨rfl, rfl, rfl, by decide +kernel, rfl, by decide +kernel, by decide +kernel⟩
/-- is_kind -/
def s_is_kind : Stmt := top 25
def n_is_kind : List Str := ["value"]
def sh_is_kind : List (Nat × (Str × Nat × List Str)) := []
def cf_is_kind : Cf := { N := n_is_kind, sh := fun h => sh_is_kind.lookup h, cn := fun g => ([(1, "KINDS")] : List (Nat × Str)).lookup g, cl := fun c => ([] : List (Nat × Str)).lookup c, gcd := false }
theorem c_is_kind : chkSs cf_is_kind (L2.defScope s_is_kind) b_is_kind (L2.defBody s_is_kind) = true := by kernel_rfl
theorem sc_is_kind : L2.FnScope n_is_kind ["value"] (L2.defScope s_is_kind) := ⟨rfl, rfl, rfl, by decide +kernel, rfl, by decide +kernel, by decide +kernel⟩
/-- is_free_kind -/
def s_is_free_kind : Stmt := top 26
def n_is_free_kind : List Str := ["kind"]
def sh_is_free_kind : List (Nat × (Str × Nat × List Str)) := []
def cf_is_free_kind : Cf := { N := n_is_free_kind, sh := fun h => sh_is_free_kind.lookup h, cn := fun g => ([(2, "_FREE_KINDS")] : List (Nat × Str)).lookup g, cl := fun c => ([] : List (Nat × Str)).lookup c, gcd := false }
theorem c_is_free_kind : chkSs cf_is_free_kind (L2.defScope s_is_free_kind) b_is_free_kind (L2.defBody s_is_free_kind) = true := by kernel_rfl
theorem sc_is_free_kind : L2.FnScope n_is_free_kind ["kind"] (L2.defScope s_is_free_kind) := ⟨rfl, rfl, rfl, by decide +kernel, rfl, by decide +kernel, by decide +kernel⟩
/-- own_count -/
def s_own_count : Stmt := top 27
def n_own_count : List Str := ["kind"]
def sh_own_count : List (Nat × (Str × Nat × List Str)) := []
def cf_own_count : Cf := { N := n_own_count, sh := fun h => sh_own_count.lookup h, cn := fun g => ([(3, "_COUNTS")] : List (Nat × Str)).lookup g, cl := fun c => ([] : List (Nat × Str)).lookup c, gcd := false }
theorem c_own_count : chkSs cf_own_count (L2.defScope s_own_count) b_own_count (L2.defBody s_own_count) = true := by kernel_rfl
theorem sc_own_count : L2.FnScope n_own_count ["kind"] (L2.defScope s_own_count) := ⟨rfl, rfl, rfl, by decide +kernel, rfl, by decide +kernel, by decide +kernel⟩
/-- table_of -/
def s_table_of : Stmt := top 28
def n_table_of : List Str := ["kind", "numbers", "a"]
def sh_table_of : List (Nat × (Str × Nat × List Str)) := [(34, ("Table", 4, [])), (35, ("negative", 1, []))]
def cf_table_of : Cf := { N := n_table_of, sh := fun h => sh_table_of.lookup h, cn := fun g => ([(4, "ZERO")] : List (Nat × Str)).lookup g, cl := fun c => ([] : List (Nat × Str)).lookup c, gcd := false }
theorem c_table_of : chkSs cf_table_of (L2.defScope s_table_of) b_table_of (L2.defBody s_table_of) = true := by kernel_rfl
theorem sc_table_of : L2.FnScope n_table_of ["kind", "numbers"] (L2.defScope s_table_of) := ⟨rfl, rfl, rfl, by decide +kernel, rfl, by decide +kernel, by decide +kernel⟩
/-- own_numbers -/
def s_own_numbers : Stmt := top 29
def n_own_numbers : List Str := ["kind", "table", "a", "b", "c", "d", "numbers"]
def sh_own_numbers : List (Nat × (Str × Nat × List Str)) := [(37, ("table_of", 2, []))]
def ms_own_numbers : List (Nat × (Str × List Nat × Nat × List Str)) := [(38, ("entries", [0], 0, []))]
def ok_own_numbers : List (Nat × (OpK × List Nat)) := [(36, (.eq, [0]))]
def cf_own_numbers : Cf := { N := n_own_numbers, sh := fun h => sh_own_numbers.lookup h, cn := fun g => ([] : List (Nat × Str)).lookup g, cl := fun c => ([] : List (Nat × Str)).lookup c, gcd := false, ms := fun h => ms_own_numbers.lookup h, ok := fun h => ok_own_numbers.lookup h }
theorem c_own_numbers : chkSs cf_own_numbers (L2.defScope s_own_numbers) b_own_numbers (L2.defBody s_own_numbers) = true := by kernel_rfl
theorem sc_own_numbers : L2.FnScope n_own_numbers ["kind", "table"] (L2.defScope s_own_numbers) := ⟨rfl, rfl, rfl, by decide +kernel, rfl, by decide +kernel, by decide +kernel⟩
/-- fits -/
def s_fits : Stmt := top 30
def n_fits : List Str := ["kind", "table"]
def sh_fits : List (Nat × (Str × Nat × List Str)) := [(39, ("own_numbers", 2, []))]
def cf_fits : Cf := { N := n_fits, sh := fun h => sh_fits.lookup h, cn := fun g => ([] : List (Nat × Str)).lookup g, cl := fun c => ([] : List (Nat × Str)).lookup c, gcd := false }
theorem c_fits : chkSs cf_fits (L2.defScope s_fits) b_fits (L2.defBody s_fits) = true := by kernel_rfl
theorem sc_fits : L2.FnScope n_fits ["kind", "table"] (L2.defScope s_fits) := ⟨rfl, rfl, rfl, by decide +kernel, rfl, by decide +kernel, by decide +kernel⟩
/-- _law_bag -/
def s__law_bag : Stmt := top 32
def n__law_bag : List Str := ["_law_script", "_law_cells"]
def sh__law_bag : List (Nat × (Str × Nat × List Str)) := []
def cf__law_bag : Cf := { N := n__law_bag, sh := fun h => sh__law_bag.lookup h, cn := fun g => ([] : List (Nat × Str)).lookup g, cl := fun c => ([] : List (Nat × Str)).lookup c, gcd := false }
theorem c__law_bag : chkSs cf__law_bag (L2.defScope s__law_bag) b__law_bag (L2.defBody s__law_bag) = true := by kernel_rfl
theorem sc__law_bag : L2.FnScope n__law_bag ["_law_script"] (L2.defScope s__law_bag) := ⟨rfl, rfl, rfl, by decide +kernel, rfl, by decide +kernel, by decide +kernel⟩
/-- _law_draw -/
def s__law_draw : Stmt := top 33
def n__law_draw : List Str := ["_law_bag_here", "_law_many_here", "_law_seed", "_law_cell", "_law_digit"]
def sh__law_draw : List (Nat × (Str × Nat × List Str)) := []
def cf__law_draw : Cf := { N := n__law_draw, sh := fun h => sh__law_draw.lookup h, cn := fun g => ([] : List (Nat × Str)).lookup g, cl := fun c => ([] : List (Nat × Str)).lookup c, gcd := false }
theorem c__law_draw : chkSs cf__law_draw (L2.defScope s__law_draw) b__law_draw (L2.defBody s__law_draw) = true := by kernel_rfl
theorem sc__law_draw : L2.FnScope n__law_draw ["_law_bag_here", "_law_many_here"] (L2.defScope s__law_draw) := ⟨rfl, rfl, rfl, by decide +kernel, rfl, by decide +kernel, by decide +kernel⟩
/-- _law_pick -/
def s__law_pick : Stmt := top 34
def n__law_pick : List Str := ["_law_bag_here", "_law_some"]
def sh__law_pick : List (Nat × (Str × Nat × List Str)) := [(5, ("_law_draw", 2, []))]
def cf__law_pick : Cf := { N := n__law_pick, sh := fun h => sh__law_pick.lookup h, cn := fun g => ([] : List (Nat × Str)).lookup g, cl := fun c => ([] : List (Nat × Str)).lookup c, gcd := false }
theorem c__law_pick : chkSs cf__law_pick (L2.defScope s__law_pick) b__law_pick (L2.defBody s__law_pick) = true := by kernel_rfl
theorem sc__law_pick : L2.FnScope n__law_pick ["_law_bag_here", "_law_some"] (L2.defScope s__law_pick) := ⟨rfl, rfl, rfl, by decide +kernel, rfl, by decide +kernel, by decide +kernel⟩
/-- _law_same -/
def s__law_same : Stmt := top 35
def n__law_same : List Str := ["_law_found", "_law_due", "_law_x", "_law_y"]
def sh__law_same : List (Nat × (Str × Nat × List Str)) := [(6, ("_law_same", 2, []))]
def cf__law_same : Cf := { N := n__law_same, sh := fun h => sh__law_same.lookup h, cn := fun g => ([] : List (Nat × Str)).lookup g, cl := fun c => ([] : List (Nat × Str)).lookup c, gcd := false }
theorem c__law_same : chkSs cf__law_same (L2.defScope s__law_same) b__law_same (L2.defBody s__law_same) = true := by kernel_rfl
theorem sc__law_same : L2.FnScope n__law_same ["_law_found", "_law_due"] (L2.defScope s__law_same) := ⟨rfl, rfl, rfl, by decide +kernel, rfl, by decide +kernel, by decide +kernel⟩
/-- _law_common -/
def s__law_common : Stmt := top 36
def n__law_common : List Str := ["_law_p", "_law_q", "_law_x", "_law_y"]
def sh__law_common : List (Nat × (Str × Nat × List Str)) := []
def cf__law_common : Cf := { N := n__law_common, sh := fun h => sh__law_common.lookup h, cn := fun g => ([] : List (Nat × Str)).lookup g, cl := fun c => ([] : List (Nat × Str)).lookup c, gcd := false }
theorem c__law_common : chkSs cf__law_common (L2.defScope s__law_common) b__law_common (L2.defBody s__law_common) = true := by kernel_rfl
theorem sc__law_common : L2.FnScope n__law_common ["_law_p", "_law_q"] (L2.defScope s__law_common) := ⟨rfl, rfl, rfl, by decide +kernel, rfl, by decide +kernel, by decide +kernel⟩
/-- _law_low -/
def s__law_low : Stmt := top 37
def n__law_low : List Str := ["_law_p", "_law_q", "_law_part"]
def sh__law_low : List (Nat × (Str × Nat × List Str)) := [(7, ("_law_common", 2, []))]
def cf__law_low : Cf := { N := n__law_low, sh := fun h => sh__law_low.lookup h, cn := fun g => ([] : List (Nat × Str)).lookup g, cl := fun c => ([] : List (Nat × Str)).lookup c, gcd := false }
theorem c__law_low : chkSs cf__law_low (L2.defScope s__law_low) b__law_low (L2.defBody s__law_low) = true := by kernel_rfl
theorem sc__law_low : L2.FnScope n__law_low ["_law_p", "_law_q"] (L2.defScope s__law_low) := ⟨rfl, rfl, rfl, by decide +kernel, rfl, by decide +kernel, by decide +kernel⟩
/-- _law_sum -/
def s__law_sum : Stmt := top 38
def n__law_sum : List Str := ["_law_x", "_law_y"]
def sh__law_sum : List (Nat × (Str × Nat × List Str)) := [(10, ("_law_low", 2, []))]
def cf__law_sum : Cf := { N := n__law_sum, sh := fun h => sh__law_sum.lookup h, cn := fun g => ([] : List (Nat × Str)).lookup g, cl := fun c => ([] : List (Nat × Str)).lookup c, gcd := false }
theorem c__law_sum : chkSs cf__law_sum (L2.defScope s__law_sum) b__law_sum (L2.defBody s__law_sum) = true := by kernel_rfl
theorem sc__law_sum : L2.FnScope n__law_sum ["_law_x", "_law_y"] (L2.defScope s__law_sum) := ⟨rfl, rfl, rfl, by decide +kernel, rfl, by decide +kernel, by decide +kernel⟩
/-- _law_product -/
def s__law_product : Stmt := top 39
def n__law_product : List Str := ["_law_x", "_law_y"]
def sh__law_product : List (Nat × (Str × Nat × List Str)) := [(10, ("_law_low", 2, []))]
def cf__law_product : Cf := { N := n__law_product, sh := fun h => sh__law_product.lookup h, cn := fun g => ([] : List (Nat × Str)).lookup g, cl := fun c => ([] : List (Nat × Str)).lookup c, gcd := false }
theorem c__law_product : chkSs cf__law_product (L2.defScope s__law_product) b__law_product (L2.defBody s__law_product) = true := by kernel_rfl
theorem sc__law_product : L2.FnScope n__law_product ["_law_x", "_law_y"] (L2.defScope s__law_product) := ⟨rfl, rfl, rfl, by decide +kernel, rfl, by decide +kernel, by decide +kernel⟩
/-- _law_long -/
def s__law_long : Stmt := top 40
def n__law_long : List Str := ["_law_v", "_law_w"]
def sh__law_long : List (Nat × (Str × Nat × List Str)) := [(40, ("_law_product", 2, []))]
def cf__law_long : Cf := { N := n__law_long, sh := fun h => sh__law_long.lookup h, cn := fun g => ([] : List (Nat × Str)).lookup g, cl := fun c => ([] : List (Nat × Str)).lookup c, gcd := false }
theorem c__law_long : chkSs cf__law_long (L2.defScope s__law_long) b__law_long (L2.defBody s__law_long) = true := by kernel_rfl
theorem sc__law_long : L2.FnScope n__law_long ["_law_v", "_law_w"] (L2.defScope s__law_long) := ⟨rfl, rfl, rfl, by decide +kernel, rfl, by decide +kernel, by decide +kernel⟩
/-- _law_fraction -/
def s__law_fraction : Stmt := top 41
def n__law_fraction : List Str := ["_law_bag_here", "_law_size", "_law_top"]
def sh__law_fraction : List (Nat × (Str × Nat × List Str)) := [(5, ("_law_draw", 2, [])), (10, ("_law_low", 2, [])), (11, ("_law_pick", 2, []))]
def cf__law_fraction : Cf := { N := n__law_fraction, sh := fun h => sh__law_fraction.lookup h, cn := fun g => ([] : List (Nat × Str)).lookup g, cl := fun c => ([] : List (Nat × Str)).lookup c, gcd := false }
theorem c__law_fraction : chkSs cf__law_fraction (L2.defScope s__law_fraction) b__law_fraction (L2.defBody s__law_fraction) = true := by kernel_rfl
theorem sc__law_fraction : L2.FnScope n__law_fraction ["_law_bag_here"] (L2.defScope s__law_fraction) := ⟨rfl, rfl, rfl, by decide +kernel, rfl, by decide +kernel, by decide +kernel⟩
/-- _law_small -/
def s__law_small : Stmt := top 42
def n__law_small : List Str := ["_law_bag_here"]
def sh__law_small : List (Nat × (Str × Nat × List Str)) := [(5, ("_law_draw", 2, [])), (10, ("_law_low", 2, [])), (11, ("_law_pick", 2, []))]
def cf__law_small : Cf := { N := n__law_small, sh := fun h => sh__law_small.lookup h, cn := fun g => ([] : List (Nat × Str)).lookup g, cl := fun c => ([] : List (Nat × Str)).lookup c, gcd := false }
theorem c__law_small : chkSs cf__law_small (L2.defScope s__law_small) b__law_small (L2.defBody s__law_small) = true := by kernel_rfl
theorem sc__law_small : L2.FnScope n__law_small ["_law_bag_here"] (L2.defScope s__law_small) := ⟨rfl, rfl, rfl, by decide +kernel, rfl, by decide +kernel, by decide +kernel⟩
/-- _law_near -/
def s__law_near : Stmt := top 43
def n__law_near : List Str := ["_law_bag_here"]
def sh__law_near : List (Nat × (Str × Nat × List Str)) := [(12, ("_law_small", 1, []))]
def cf__law_near : Cf := { N := n__law_near, sh := fun h => sh__law_near.lookup h, cn := fun g => ([] : List (Nat × Str)).lookup g, cl := fun c => ([] : List (Nat × Str)).lookup c, gcd := false }
theorem c__law_near : chkSs cf__law_near (L2.defScope s__law_near) b__law_near (L2.defBody s__law_near) = true := by kernel_rfl
theorem sc__law_near : L2.FnScope n__law_near ["_law_bag_here"] (L2.defScope s__law_near) := ⟨rfl, rfl, rfl, by decide +kernel, rfl, by decide +kernel, by decide +kernel⟩
/-- _law_table -/
def s__law_table : Stmt := top 44
def n__law_table : List Str := ["_law_bag_here", "_law_way", "_law_v", "_law_u", "_law_w"]
def sh__law_table : List (Nat × (Str × Nat × List Str)) := [(5, ("_law_draw", 2, [])), (12, ("_law_small", 1, [])), (32, ("_law_fraction", 1, [])), (41, ("_law_long", 2, [])), (42, ("_law_near", 1, []))]
def cf__law_table : Cf := { N := n__law_table, sh := fun h => sh__law_table.lookup h, cn := fun g => ([] : List (Nat × Str)).lookup g, cl := fun c => ([] : List (Nat × Str)).lookup c, gcd := false }
theorem c__law_table : chkSs cf__law_table (L2.defScope s__law_table) b__law_table (L2.defBody s__law_table) = true := by kernel_rfl
theorem sc__law_table : L2.FnScope n__law_table ["_law_bag_here"] (L2.defScope s__law_table) := ⟨rfl, rfl, rfl, by decide +kernel, rfl, by decide +kernel, by decide +kernel⟩
/-- _law_words -/
def s__law_words : Stmt := top 45
def n__law_words : List Str := []
def sh__law_words : List (Nat × (Str × Nat × List Str)) := []
def cf__law_words : Cf := { N := n__law_words, sh := fun h => sh__law_words.lookup h, cn := fun g => ([] : List (Nat × Str)).lookup g, cl := fun c => ([] : List (Nat × Str)).lookup c, gcd := false }
theorem c__law_words : chkSs cf__law_words (L2.defScope s__law_words) b__law_words (L2.defBody s__law_words) = true := by kernel_rfl
theorem sc__law_words : L2.FnScope n__law_words [] (L2.defScope s__law_words) := ⟨rfl, rfl, rfl, by decide +kernel, rfl, by decide +kernel, by decide +kernel⟩
/-- _law_many -/
def s__law_many : Stmt := top 46
def n__law_many : List Str := ["_law_word"]
def sh__law_many : List (Nat × (Str × Nat × List Str)) := []
def cf__law_many : Cf := { N := n__law_many, sh := fun h => sh__law_many.lookup h, cn := fun g => ([] : List (Nat × Str)).lookup g, cl := fun c => ([] : List (Nat × Str)).lookup c, gcd := false }
theorem c__law_many : chkSs cf__law_many (L2.defScope s__law_many) b__law_many (L2.defBody s__law_many) = true := by kernel_rfl
theorem sc__law_many : L2.FnScope n__law_many ["_law_word"] (L2.defScope s__law_many) := ⟨rfl, rfl, rfl, by decide +kernel, rfl, by decide +kernel, by decide +kernel⟩
/-- _law_filled -/
def s__law_filled : Stmt := top 47
def n__law_filled : List Str := ["_law_word", "_law_nums", "_law_x", "_law_y", "_law_zero"]
def sh__law_filled : List (Nat × (Str × Nat × List Str)) := [(40, ("_law_product", 2, []))]
def cf__law_filled : Cf := { N := n__law_filled, sh := fun h => sh__law_filled.lookup h, cn := fun g => ([] : List (Nat × Str)).lookup g, cl := fun c => ([] : List (Nat × Str)).lookup c, gcd := false }
theorem c__law_filled : chkSs cf__law_filled (L2.defScope s__law_filled) b__law_filled (L2.defBody s__law_filled) = true := by kernel_rfl
theorem sc__law_filled : L2.FnScope n__law_filled ["_law_word", "_law_nums"] (L2.defScope s__law_filled) := ⟨rfl, rfl, rfl, by decide +kernel, rfl, by decide +kernel, by decide +kernel⟩
/-- _law_read_off -/
def s__law_read_off : Stmt := top 48
def n__law_read_off : List Str := ["_law_word", "_law_t", "_law_nums"]
def sh__law_read_off : List (Nat × (Str × Nat × List Str)) := [(43, ("_law_filled", 2, [])), (44, ("_law_many", 1, []))]
def cf__law_read_off : Cf := { N := n__law_read_off, sh := fun h => sh__law_read_off.lookup h, cn := fun g => ([] : List (Nat × Str)).lookup g, cl := fun c => ([] : List (Nat × Str)).lookup c, gcd := false }
theorem c__law_read_off : chkSs cf__law_read_off (L2.defScope s__law_read_off) b__law_read_off (L2.defBody s__law_read_off) = true := by kernel_rfl
theorem sc__law_read_off : L2.FnScope n__law_read_off ["_law_word", "_law_t"] (L2.defScope s__law_read_off) := ⟨rfl, rfl, rfl, by decide +kernel, rfl, by decide +kernel, by decide +kernel⟩
/-- _law_made -/
def s__law_made : Stmt := top 49
def n__law_made : List Str := ["_law_t"]
def sh__law_made : List (Nat × (Str × Nat × List Str)) := [(34, ("Table", 4, []))]
def cf__law_made : Cf := { N := n__law_made, sh := fun h => sh__law_made.lookup h, cn := fun g => ([] : List (Nat × Str)).lookup g, cl := fun c => ([] : List (Nat × Str)).lookup c, gcd := false }
theorem c__law_made : chkSs cf__law_made (L2.defScope s__law_made) b__law_made (L2.defBody s__law_made) = true := by kernel_rfl
theorem sc__law_made : L2.FnScope n__law_made ["_law_t"] (L2.defScope s__law_made) := ⟨rfl, rfl, rfl, by decide +kernel, rfl, by decide +kernel, by decide +kernel⟩
/-- _law_bent -/
def s__law_bent : Stmt := top 50
def n__law_bent : List Str := ["_law_bag_here", "_law_t", "_law_put", "_law_k", "_law_x"]
def sh__law_bent : List (Nat × (Str × Nat × List Str)) := [(5, ("_law_draw", 2, [])), (11, ("_law_pick", 2, [])), (12, ("_law_small", 1, [])), (40, ("_law_product", 2, [])), (45, ("_law_sum", 2, []))]
def cf__law_bent : Cf := { N := n__law_bent, sh := fun h => sh__law_bent.lookup h, cn := fun g => ([] : List (Nat × Str)).lookup g, cl := fun c => ([] : List (Nat × Str)).lookup c, gcd := false }
theorem c__law_bent : chkSs cf__law_bent (L2.defScope s__law_bent) b__law_bent_1 (L2.defBody s__law_bent) = true := by kernel_rfl
theorem sc__law_bent : L2.FnScope n__law_bent ["_law_bag_here", "_law_t"] (L2.defScope s__law_bent) := ⟨rfl, rfl, rfl, by decide +kernel, rfl, by decide +kernel, by decide +kernel⟩
/-- _law_words_so -/
def s__law_words_so : Stmt := top 51
def n__law_words_so : List Str := ["_law_bag_here", "_law_words_here", "_law_told", "_law_due", "_law_word", "_law_k", "_law_near_here", "_law_odd"]
def sh__law_words_so : List (Nat × (Str × Nat × List Str)) := [(5, ("_law_draw", 2, [])), (6, ("_law_same", 2, [])), (11, ("_law_pick", 2, [])), (44, ("_law_many", 1, [])), (46, ("is_kind", 0, ["value"])), (47, ("is_kind", 1, [])), (49, ("own_count", 0, ["kind"])), (50, ("own_count", 1, [])), (51, ("is_free_kind", 0, ["kind"])), (52, ("is_free_kind", 1, [])), (53, ("_law_words", 0, []))]
def ok__law_words_so : List (Nat × (OpK × List Nat)) := [(48, (.stat "Table" "zero" 0 [], []))]
def cf__law_words_so : Cf := { N := n__law_words_so, sh := fun h => sh__law_words_so.lookup h, cn := fun g => ([(1, "KINDS")] : List (Nat × Str)).lookup g, cl := fun c => ([] : List (Nat × Str)).lookup c, gcd := false, ok := fun h => ok__law_words_so.lookup h }
theorem c__law_words_so : chkSs cf__law_words_so (L2.defScope s__law_words_so) b__law_words_so (L2.defBody s__law_words_so) = true := by kernel_rfl
theorem sc__law_words_so : L2.FnScope n__law_words_so ["_law_bag_here"] (L2.defScope s__law_words_so) := ⟨rfl, rfl, rfl, by decide +kernel, rfl, by decide +kernel, by decide +kernel⟩
/-- _law_numbers_so -/
def s__law_numbers_so : Stmt := top 52
def n__law_numbers_so : List Str := ["_law_word", "_law_nums", "_law_mine", "_law_due", "_law_told", "_law_made_here", "_law_named"]
def sh__law_numbers_so : List (Nat × (Str × Nat × List Str)) := [(6, ("_law_same", 2, [])), (37, ("table_of", 2, [])), (39, ("own_numbers", 2, [])), (43, ("_law_filled", 2, [])), (54, ("own_numbers", 0, ["table", "kind"])), (55, ("fits", 2, [])), (56, ("table_of", 0, ["numbers", "kind"]))]
def ms__law_numbers_so : List (Nat × (Str × List Nat × Nat × List Str)) := [(38, ("entries", [0], 0, []))]
def ok__law_numbers_so : List (Nat × (OpK × List Nat)) := [(36, (.eq, [0]))]
def cf__law_numbers_so : Cf := { N := n__law_numbers_so, sh := fun h => sh__law_numbers_so.lookup h, cn := fun g => ([] : List (Nat × Str)).lookup g, cl := fun c => ([(0, "Table")] : List (Nat × Str)).lookup c, gcd := false, ms := fun h => ms__law_numbers_so.lookup h, ok := fun h => ok__law_numbers_so.lookup h }
theorem c__law_numbers_so : chkSs cf__law_numbers_so (L2.defScope s__law_numbers_so) b__law_numbers_so (L2.defBody s__law_numbers_so) = true := by kernel_rfl
theorem sc__law_numbers_so : L2.FnScope n__law_numbers_so ["_law_word", "_law_nums"] (L2.defScope s__law_numbers_so) := ⟨rfl, rfl, rfl, by decide +kernel, rfl, by decide +kernel, by decide +kernel⟩
/-- _law_judged_so -/
def s__law_judged_so : Stmt := top 53
def n__law_judged_so : List Str := ["_law_t", "_law_made_here", "_law_word", "_law_due", "_law_told"]
def sh__law_judged_so : List (Nat × (Str × Nat × List Str)) := [(6, ("_law_same", 2, [])), (39, ("own_numbers", 2, [])), (53, ("_law_words", 0, [])), (55, ("fits", 2, [])), (57, ("fits", 0, ["table", "kind"])), (58, ("_law_read_off", 2, [])), (59, ("_law_made", 1, []))]
def cf__law_judged_so : Cf := { N := n__law_judged_so, sh := fun h => sh__law_judged_so.lookup h, cn := fun g => ([] : List (Nat × Str)).lookup g, cl := fun c => ([] : List (Nat × Str)).lookup c, gcd := false }
theorem c__law_judged_so : chkSs cf__law_judged_so (L2.defScope s__law_judged_so) b__law_judged_so (L2.defBody s__law_judged_so) = true := by kernel_rfl
theorem sc__law_judged_so : L2.FnScope n__law_judged_so ["_law_t"] (L2.defScope s__law_judged_so) := ⟨rfl, rfl, rfl, by decide +kernel, rfl, by decide +kernel, by decide +kernel⟩
/-- law -/
def s_law : Stmt := top 54
def n_law : List Str := ["_law_script", "_law_bag_here", "_law_turn", "_law_word", "_law_nums", "_law_more", "_law_others", "_law_closed", "_law_both", "_law_t", "_law_s", "_law_w", "_law_k", "_law_x", "_law_y", "_law_r"]
def sh_law : List (Nat × (Str × Nat × List Str)) := [(6, ("_law_same", 2, [])), (11, ("_law_pick", 2, [])), (12, ("_law_small", 1, [])), (25, ("_law_bent", 2, [])), (32, ("_law_fraction", 1, [])), (33, ("_law_bag", 1, [])), (39, ("own_numbers", 2, [])), (43, ("_law_filled", 2, [])), (44, ("_law_many", 1, [])), (45, ("_law_sum", 2, [])), (53, ("_law_words", 0, [])), (55, ("fits", 2, [])), (59, ("_law_made", 1, [])), (64, ("_law_judged_so", 1, [])), (65, ("_law_table", 1, [])), (66, ("_law_numbers_so", 2, [])), (67, ("_law_words_so", 1, []))]
def ms_law : List (Nat × (Str × List Nat × Nat × List Str)) := [(61, ("scaled", [0], 1, []))]
def ok_law : List (Nat × (OpK × List Nat)) := [(48, (.stat "Table" "zero" 0 [], [])), (60, (.neg, [0])), (62, (.bin .Sub, [0])), (63, (.bin .Add, [0]))]
def cf_law : Cf := { N := n_law, sh := fun h => sh_law.lookup h, cn := fun g => ([] : List (Nat × Str)).lookup g, cl := fun c => ([] : List (Nat × Str)).lookup c, gcd := false, ms := fun h => ms_law.lookup h, ok := fun h => ok_law.lookup h }
theorem c_law : chkSs cf_law (L2.defScope s_law) b_law_1 (L2.defBody s_law) = true := by kernel_rfl
theorem sc_law : L2.FnScope n_law ["_law_script"] (L2.defScope s_law) := ⟨rfl, rfl, rfl, by decide +kernel, rfl, by decide +kernel, by decide +kernel⟩
/-- Table.__init__ -/
def s_Table___init__ : Stmt := inCls 20 0
def n_Table___init__ : List Str := ["self", "a", "b", "c", "d", "entry"]
def sh_Table___init__ : List (Nat × (Str × Nat × List Str)) := [(1, ("is_fraction", 1, []))]
def cf_Table___init__ : Cf := { N := n_Table___init__, sh := fun h => sh_Table___init__.lookup h, cn := fun g => ([] : List (Nat × Str)).lookup g, cl := fun c => ([] : List (Nat × Str)).lookup c, gcd := false, fl := fun f => ([(0, "d"), (1, "c"), (2, "b"), (3, "a")] : List (Nat × Str)).lookup f }
theorem c_Table___init__ : chkSs cf_Table___init__ (L2.defScope s_Table___init__) b_Table___init__ (L2.defBody s_Table___init__) = true := by kernel_rfl
theorem sc_Table___init__ : L2.FnScope n_Table___init__ ["self", "a", "b", "c", "d"] (L2.defScope s_Table___init__) := ⟨rfl, rfl, rfl, by decide +kernel, rfl, by decide +kernel, by decide +kernel⟩
/-- Table.__add__ -/
def s_Table___add__ : Stmt := inCls 20 3
def n_Table___add__ : List Str := ["self", "other"]
def sh_Table___add__ : List (Nat × (Str × Nat × List Str)) := [(28, ("plus", 2, [])), (34, ("Table", 4, []))]
def cf_Table___add__ : Cf := { N := n_Table___add__, sh := fun h => sh_Table___add__.lookup h, cn := fun g => ([] : List (Nat × Str)).lookup g, cl := fun c => ([(0, "Table")] : List (Nat × Str)).lookup c, gcd := false, fl := fun f => ([(0, "d"), (1, "c"), (2, "b"), (3, "a")] : List (Nat × Str)).lookup f }
theorem c_Table___add__ : chkSs cf_Table___add__ (L2.defScope s_Table___add__) b_Table___add__ (L2.defBody s_Table___add__) = true := by kernel_rfl
theorem sc_Table___add__ : L2.FnScope n_Table___add__ ["self", "other"] (L2.defScope s_Table___add__) := ⟨rfl, rfl, rfl, by decide +kernel, rfl, by decide +kernel, by decide +kernel⟩
/-- Table.__sub__ -/
def s_Table___sub__ : Stmt := inCls 20 4
def n_Table___sub__ : List Str := ["self", "other"]
def sh_Table___sub__ : List (Nat × (Str × Nat × List Str)) := [(34, ("Table", 4, [])), (68, ("minus", 2, []))]
def cf_Table___sub__ : Cf := { N := n_Table___sub__, sh := fun h => sh_Table___sub__.lookup h, cn := fun g => ([] : List (Nat × Str)).lookup g, cl := fun c => ([(0, "Table")] : List (Nat × Str)).lookup c, gcd := false, fl := fun f => ([(0, "d"), (1, "c"), (2, "b"), (3, "a")] : List (Nat × Str)).lookup f }
theorem c_Table___sub__ : chkSs cf_Table___sub__ (L2.defScope s_Table___sub__) b_Table___sub__ (L2.defBody s_Table___sub__) = true := by kernel_rfl
theorem sc_Table___sub__ : L2.FnScope n_Table___sub__ ["self", "other"] (L2.defScope s_Table___sub__) := ⟨rfl, rfl, rfl, by decide +kernel, rfl, by decide +kernel, by decide +kernel⟩
/-- Table.__neg__ -/
def s_Table___neg__ : Stmt := inCls 20 5
def n_Table___neg__ : List Str := ["self"]
def sh_Table___neg__ : List (Nat × (Str × Nat × List Str)) := [(34, ("Table", 4, [])), (35, ("negative", 1, []))]
def cf_Table___neg__ : Cf := { N := n_Table___neg__, sh := fun h => sh_Table___neg__.lookup h, cn := fun g => ([] : List (Nat × Str)).lookup g, cl := fun c => ([] : List (Nat × Str)).lookup c, gcd := false, fl := fun f => ([(0, "d"), (1, "c"), (2, "b"), (3, "a")] : List (Nat × Str)).lookup f }
theorem c_Table___neg__ : chkSs cf_Table___neg__ (L2.defScope s_Table___neg__) b_Table___neg__ (L2.defBody s_Table___neg__) = true := by kernel_rfl
theorem sc_Table___neg__ : L2.FnScope n_Table___neg__ ["self"] (L2.defScope s_Table___neg__) := ⟨rfl, rfl, rfl, by decide +kernel, rfl, by decide +kernel, by decide +kernel⟩
/-- Table.__mul__ -/
def s_Table___mul__ : Stmt := inCls 20 6
def n_Table___mul__ : List Str := ["self", "other", "first", "second"]
def sh_Table___mul__ : List (Nat × (Str × Nat × List Str)) := [(34, ("Table", 4, [])), (69, ("_applied", 2, []))]
def cf_Table___mul__ : Cf := { N := n_Table___mul__, sh := fun h => sh_Table___mul__.lookup h, cn := fun g => ([] : List (Nat × Str)).lookup g, cl := fun c => ([(0, "Table")] : List (Nat × Str)).lookup c, gcd := false, fl := fun f => ([(0, "d"), (1, "c"), (2, "b"), (3, "a")] : List (Nat × Str)).lookup f }
theorem c_Table___mul__ : chkSs cf_Table___mul__ (L2.defScope s_Table___mul__) b_Table___mul__ (L2.defBody s_Table___mul__) = true := by kernel_rfl
theorem sc_Table___mul__ : L2.FnScope n_Table___mul__ ["self", "other"] (L2.defScope s_Table___mul__) := ⟨rfl, rfl, rfl, by decide +kernel, rfl, by decide +kernel, by decide +kernel⟩
/-- Table.scaled -/
def s_Table_scaled : Stmt := inCls 20 7
def n_Table_scaled : List Str := ["self", "weight"]
def sh_Table_scaled : List (Nat × (Str × Nat × List Str)) := [(29, ("times", 2, [])), (34, ("Table", 4, []))]
def cf_Table_scaled : Cf := { N := n_Table_scaled, sh := fun h => sh_Table_scaled.lookup h, cn := fun g => ([] : List (Nat × Str)).lookup g, cl := fun c => ([] : List (Nat × Str)).lookup c, gcd := false, fl := fun f => ([(0, "d"), (1, "c"), (2, "b"), (3, "a")] : List (Nat × Str)).lookup f }
theorem c_Table_scaled : chkSs cf_Table_scaled (L2.defScope s_Table_scaled) b_Table_scaled (L2.defBody s_Table_scaled) = true := by kernel_rfl
theorem sc_Table_scaled : L2.FnScope n_Table_scaled ["self", "weight"] (L2.defScope s_Table_scaled) := ⟨rfl, rfl, rfl, by decide +kernel, rfl, by decide +kernel, by decide +kernel⟩
/-- Table.entries -/
def s_Table_entries : Stmt := inCls 20 9
def n_Table_entries : List Str := ["self"]
def sh_Table_entries : List (Nat × (Str × Nat × List Str)) := []
def cf_Table_entries : Cf := { N := n_Table_entries, sh := fun h => sh_Table_entries.lookup h, cn := fun g => ([] : List (Nat × Str)).lookup g, cl := fun c => ([] : List (Nat × Str)).lookup c, gcd := false, fl := fun f => ([(0, "d"), (1, "c"), (2, "b"), (3, "a")] : List (Nat × Str)).lookup f }
theorem c_Table_entries : chkSs cf_Table_entries (L2.defScope s_Table_entries) b_Table_entries (L2.defBody s_Table_entries) = true := by kernel_rfl
theorem sc_Table_entries : L2.FnScope n_Table_entries ["self"] (L2.defScope s_Table_entries) := ⟨rfl, rfl, rfl, by decide +kernel, rfl, by decide +kernel, by decide +kernel⟩
/-- Table.zero -/
def s_Table_zero : Stmt := inCls 20 11
def n_Table_zero : List Str := []
def sh_Table_zero : List (Nat × (Str × Nat × List Str)) := [(34, ("Table", 4, []))]
def cf_Table_zero : Cf := { N := n_Table_zero, sh := fun h => sh_Table_zero.lookup h, cn := fun g => ([(4, "ZERO")] : List (Nat × Str)).lookup g, cl := fun c => ([] : List (Nat × Str)).lookup c, gcd := false }
theorem c_Table_zero : chkSs cf_Table_zero (L2.defScope s_Table_zero) b_Table_zero (L2.defBody s_Table_zero) = true := by kernel_rfl
theorem sc_Table_zero : L2.FnScope n_Table_zero [] (L2.defScope s_Table_zero) := ⟨rfl, rfl, rfl, by decide +kernel, rfl, by decide +kernel, by decide +kernel⟩
/-- Table.__eq__ -/
def s_Table___eq__ : Stmt := inCls 20 12
def n_Table___eq__ : List Str := ["self", "other"]
def sh_Table___eq__ : List (Nat × (Str × Nat × List Str)) := []
def cf_Table___eq__ : Cf := { N := n_Table___eq__, sh := fun h => sh_Table___eq__.lookup h, cn := fun g => ([] : List (Nat × Str)).lookup g, cl := fun c => ([(0, "Table")] : List (Nat × Str)).lookup c, gcd := false, fl := fun f => ([(0, "d"), (1, "c"), (2, "b"), (3, "a")] : List (Nat × Str)).lookup f }
theorem c_Table___eq__ : chkSs cf_Table___eq__ (L2.defScope s_Table___eq__) b_Table___eq__ (L2.defBody s_Table___eq__) = true := by kernel_rfl
theorem sc_Table___eq__ : L2.FnScope n_Table___eq__ ["self", "other"] (L2.defScope s_Table___eq__) := ⟨rfl, rfl, rfl, by decide +kernel, rfl, by decide +kernel, by decide +kernel⟩
end k09
end Lw
end Ev
set_option Elab.async false
set_option linter.all false
set_option autoImplicit false
set_option maxRecDepth 100000
set_option maxHeartbeats 4000000
namespace Ev
namespace Lw
namespace k09
open PySem PySem.Spec PyProof.Rows L2
abbrev NN (K : PySem.W.Frag) (w : World) : Nm := TT.N K w
def no : Tr := fun _ _ _ => False
def Gg : Glob where
  fn := fun h => match h with
    | 0 => fnT rWhole
    | 1 => fnT rIsFr
    | 2 => fnT rLow
    | 5 => drawT
    | 6 => sameT 20
    | 7 => fnT rCommon
    | 10 => fnT rLow
    | 11 => pickT
    | 12 => bT Z0 rSmall
    | 25 => bentT
    | 28 => fnT rPlus
    | 29 => fnT rTimes
    | 32 => bT Z0 rSmall
    | 33 => bagT
    | 34 => makeT
    | 35 => negT
    | 36 => eqtT
    | 37 => tabT
    | 38 => entT
    | 39 => ownT
    | 40 => fnT rTimes
    | 41 => longT
    | 42 => bT Z0 fun _ r => ∃ x y : Rat, r = .tup [fr x, fr y] ∧ Sm 21 x ∧ Sm 21 y
    | 43 => filT
    | 44 => kcT
    | 45 => fnT rPlus
    | 46 => isKT
    | 47 => isKT
    | 48 => zeroT
    | 49 => kcT
    | 50 => kcT
    | 51 => kfT
    | 52 => kfT
    | 53 => wordsT
    | 54 => ownS
    | 55 => fitT
    | 56 => tabS
    | 57 => fitS
    | 58 => readT
    | 59 => madeT
    | 60 => negtT
    | 61 => scalT
    | 62 => subT
    | 63 => addT
    | 64 => judT
    | 65 => bT Z0 fun _ r => ∃ t : Q4, r = t4 t ∧ SmQ 42 t
    | 66 => numT
    | 67 => bT Z0 fun _ r => r = .bl true
    | 68 => minusT
    | _ => no
  cst := TT.cst
  has := TT.has
def Gr (T : Tr) : Glob where
  fn := fun h => match h with
    | 6 => T
    | _ => no
  cst := fun _ => none
section
variable {P : Program} {w : World} {K : PySem.W.Frag} {mg : Str → Option Value} {base : Heap}
theorem no_call {k n : Nat} {f : Addr} {ks : List Str} : CallOk P w K mg base k f n ks (spOf (NN K w) no) := fun A outer s H us ws vs zs Q E _ _ _ _ _ _ ⟨_, _, _, _, _, _, _, z, _⟩ => z.elim
theorem same_rec (tt : TOk TT K w mg) {fd : FuncData} (D : FunD K "_law_same" "_law_same" (defArgs (top 35)) (defBody (top 35)) (defScope (top 35)) [] [] (He.ga K "_law_same") fd) (g : mg "_law_same" = some (.ref (He.ga K "_law_same"))) (b : Binds K fd ["_law_found", "_law_due"] []) : ∀ n : Nat, n ≤ 50 → FnOk P w K mg base (L2.CX P w) (n + 1) (He.ga K "_law_same") fd ["_law_found", "_law_due"] (spOf (NN K w) (sameT n))
  | 0, _ => fn_sound (sx_of (cf := cf__law_same) (G := (Gr no))  tt (by decide +kernel) (.inl rfl) (by decide +kernel) (fns_cons (j := 0) g D.kp no_call (Nat.le_refl _) fns_nil) (fun h m cs n ks e => mss_nil h m cs n ks e) (fun h kd cs e => opss_nil h kd cs e) (fun _ => rfl) (fun g x e => subN_ok (l := []) (by decide +kernel) e) (fun _ _ e => by cases e) (fun c x e => subL_ok (α := Str) (l := []) (m := TT.cl) (by decide +kernel) e) (fun _ _ e => by cases e) (fun _ _ e => by cases e)) D sc__law_same c__law_same rfl (same_ok (Gr no) 0 (by omega) fun m e => by omega)
  | n + 1, hn => by
    have ih := same_rec tt D g b n (by omega)
    have C := call_all ih b
    exact fn_sound (sx_of (cf := cf__law_same) (G := (Gr (sameT n)))  tt (by decide +kernel) (.inl rfl) (by decide +kernel) (fns_cons g D.kp C (Nat.le_refl _) fns_nil) (fun h m cs n ks e => mss_nil h m cs n ks e) (fun h kd cs e => opss_nil h kd cs e) (fun _ => rfl) (fun g x e => subN_ok (l := []) (by decide +kernel) e) (fun _ _ e => by cases e) (fun c x e => subL_ok (α := Str) (l := []) (m := TT.cl) (by decide +kernel) e) (fun _ _ e => by cases e) (fun _ _ e => by cases e)) D sc__law_same c__law_same rfl (same_ok (Gr (sameT n)) (n + 1) hn fun m e => by cases e; rfl)
end
theorem facts {P : Program} {w : World} {K : PySem.W.Frag} {h : Heap} {mg : Str → Option Value} {f : Addr} (X : K.In h) (G : h.Ns mainGlobals mg) (hfa : mg ("law" : Str) = some (.ref f)) (c : SaysE fa fn TT.ts ex w K) :
    ∃ fd : FuncData, (∀ (s : Shared) (v : Value), BindsTo s fd ⟨[v], []⟩ [("_law_script", v)]) ∧ ∀ base : Heap, K.In base → base.Ns mainGlobals mg → FnOk P w K mg base (L2.CX P w) 23 f fd ["_law_script"] (spOf (NN K w) lawT) := by
  have hex := c.more
  unfold ex at hex
  obtain ⟨e1, e2⟩ := Bool.and_eq_true_iff.mp hex
  have exl : ∀ b ∈ exL K, b = true := fun b hb => by simpa using List.all_eq_true.mp e2 b hb
  have tt : TOk TT K w mg := tok_of X G e1 (dicts_ok c)
  have x0 : statB K (He.ga K "Table") "zero" = true := exl _ (List.mem_of_getElem? (i := 0) rfl)
  have x1 : PySem.W.selfFirst K (He.ga K "Table") = true := exl _ (List.mem_of_getElem? (i := 1) rfl)
  obtain ⟨fd0, D0⟩ : ∃ fd, FunD K "_is_number" "_is_number" (defArgs (top 9)) (defBody (top 9)) (defScope (top 9)) [] [] (He.ga K "_is_number") fd := c.a.def_ 0 (d := d_0) rfl
  have g0 := He.glo_ok X G (c.a.fact 0 (f := .glo "_is_number") rfl)
  obtain ⟨fd1, D1⟩ : ∃ fd, FunD K "is_fraction" "is_fraction" (defArgs (top 10)) (defBody (top 10)) (defScope (top 10)) [] [] (He.ga K "is_fraction") fd := c.a.def_ 1 (d := d_1) rfl
  have g1 := He.glo_ok X G (c.a.fact 1 (f := .glo "is_fraction") rfl)
  obtain ⟨fd2, D2⟩ : ∃ fd, FunD K "fraction" "fraction" (defArgs (top 12)) (defBody (top 12)) (defScope (top 12)) (List.map (He.Dv.v K) [.int 1]) [] (He.ga K "fraction") fd := c.a.def_ 2 (d := d_2) rfl
  have g2 := He.glo_ok X G (c.a.fact 2 (f := .glo "fraction") rfl)
  obtain ⟨fd3, D3⟩ : ∃ fd, FunD K "plus" "plus" (defArgs (top 13)) (defBody (top 13)) (defScope (top 13)) [] [] (He.ga K "plus") fd := c.a.def_ 3 (d := d_3) rfl
  have g3 := He.glo_ok X G (c.a.fact 3 (f := .glo "plus") rfl)
  obtain ⟨fd4, D4⟩ : ∃ fd, FunD K "minus" "minus" (defArgs (top 14)) (defBody (top 14)) (defScope (top 14)) [] [] (He.ga K "minus") fd := c.a.def_ 4 (d := d_4) rfl
  have g4 := He.glo_ok X G (c.a.fact 4 (f := .glo "minus") rfl)
  obtain ⟨fd5, D5⟩ : ∃ fd, FunD K "times" "times" (defArgs (top 15)) (defBody (top 15)) (defScope (top 15)) [] [] (He.ga K "times") fd := c.a.def_ 5 (d := d_5) rfl
  have g5 := He.glo_ok X G (c.a.fact 5 (f := .glo "times") rfl)
  obtain ⟨fd6, D6⟩ : ∃ fd, FunD K "negative" "negative" (defArgs (top 16)) (defBody (top 16)) (defScope (top 16)) [] [] (He.ga K "negative") fd := c.a.def_ 6 (d := d_6) rfl
  have g6 := He.glo_ok X G (c.a.fact 6 (f := .glo "negative") rfl)
  obtain ⟨fd7, D7⟩ : ∃ fd, FunD K "is_kind" "is_kind" (defArgs (top 25)) (defBody (top 25)) (defScope (top 25)) [] [] (He.ga K "is_kind") fd := c.a.def_ 7 (d := d_7) rfl
  have g7 := He.glo_ok X G (c.a.fact 7 (f := .glo "is_kind") rfl)
  obtain ⟨fd8, D8⟩ : ∃ fd, FunD K "is_free_kind" "is_free_kind" (defArgs (top 26)) (defBody (top 26)) (defScope (top 26)) [] [] (He.ga K "is_free_kind") fd := c.a.def_ 8 (d := d_8) rfl
  have g8 := He.glo_ok X G (c.a.fact 8 (f := .glo "is_free_kind") rfl)
  obtain ⟨fd9, D9⟩ : ∃ fd, FunD K "own_count" "own_count" (defArgs (top 27)) (defBody (top 27)) (defScope (top 27)) [] [] (He.ga K "own_count") fd := c.a.def_ 9 (d := d_9) rfl
  have g9 := He.glo_ok X G (c.a.fact 9 (f := .glo "own_count") rfl)
  obtain ⟨fd10, D10⟩ : ∃ fd, FunD K "table_of" "table_of" (defArgs (top 28)) (defBody (top 28)) (defScope (top 28)) [] [] (He.ga K "table_of") fd := c.a.def_ 10 (d := d_10) rfl
  have g10 := He.glo_ok X G (c.a.fact 10 (f := .glo "table_of") rfl)
  obtain ⟨fd11, D11⟩ : ∃ fd, FunD K "own_numbers" "own_numbers" (defArgs (top 29)) (defBody (top 29)) (defScope (top 29)) [] [] (He.ga K "own_numbers") fd := c.a.def_ 11 (d := d_11) rfl
  have g11 := He.glo_ok X G (c.a.fact 11 (f := .glo "own_numbers") rfl)
  obtain ⟨fd12, D12⟩ : ∃ fd, FunD K "fits" "fits" (defArgs (top 30)) (defBody (top 30)) (defScope (top 30)) [] [] (He.ga K "fits") fd := c.a.def_ 12 (d := d_12) rfl
  have g12 := He.glo_ok X G (c.a.fact 12 (f := .glo "fits") rfl)
  obtain ⟨fd13, D13⟩ : ∃ fd, FunD K "_law_bag" "_law_bag" (defArgs (top 32)) (defBody (top 32)) (defScope (top 32)) [] [] (He.ga K "_law_bag") fd := c.a.def_ 13 (d := d_13) rfl
  have g13 := He.glo_ok X G (c.a.fact 13 (f := .glo "_law_bag") rfl)
  obtain ⟨fd14, D14⟩ : ∃ fd, FunD K "_law_draw" "_law_draw" (defArgs (top 33)) (defBody (top 33)) (defScope (top 33)) [] [] (He.ga K "_law_draw") fd := c.a.def_ 14 (d := d_14) rfl
  have g14 := He.glo_ok X G (c.a.fact 14 (f := .glo "_law_draw") rfl)
  obtain ⟨fd15, D15⟩ : ∃ fd, FunD K "_law_pick" "_law_pick" (defArgs (top 34)) (defBody (top 34)) (defScope (top 34)) [] [] (He.ga K "_law_pick") fd := c.a.def_ 15 (d := d_15) rfl
  have g15 := He.glo_ok X G (c.a.fact 15 (f := .glo "_law_pick") rfl)
  obtain ⟨fd16, D16⟩ : ∃ fd, FunD K "_law_same" "_law_same" (defArgs (top 35)) (defBody (top 35)) (defScope (top 35)) [] [] (He.ga K "_law_same") fd := c.a.def_ 16 (d := d_16) rfl
  have g16 := He.glo_ok X G (c.a.fact 16 (f := .glo "_law_same") rfl)
  obtain ⟨fd17, D17⟩ : ∃ fd, FunD K "_law_common" "_law_common" (defArgs (top 36)) (defBody (top 36)) (defScope (top 36)) [] [] (He.ga K "_law_common") fd := c.a.def_ 17 (d := d_17) rfl
  have g17 := He.glo_ok X G (c.a.fact 17 (f := .glo "_law_common") rfl)
  obtain ⟨fd18, D18⟩ : ∃ fd, FunD K "_law_low" "_law_low" (defArgs (top 37)) (defBody (top 37)) (defScope (top 37)) [] [] (He.ga K "_law_low") fd := c.a.def_ 18 (d := d_18) rfl
  have g18 := He.glo_ok X G (c.a.fact 18 (f := .glo "_law_low") rfl)
  obtain ⟨fd19, D19⟩ : ∃ fd, FunD K "_law_sum" "_law_sum" (defArgs (top 38)) (defBody (top 38)) (defScope (top 38)) [] [] (He.ga K "_law_sum") fd := c.a.def_ 19 (d := d_19) rfl
  have g19 := He.glo_ok X G (c.a.fact 19 (f := .glo "_law_sum") rfl)
  obtain ⟨fd20, D20⟩ : ∃ fd, FunD K "_law_product" "_law_product" (defArgs (top 39)) (defBody (top 39)) (defScope (top 39)) [] [] (He.ga K "_law_product") fd := c.a.def_ 20 (d := d_20) rfl
  have g20 := He.glo_ok X G (c.a.fact 20 (f := .glo "_law_product") rfl)
  obtain ⟨fd21, D21⟩ : ∃ fd, FunD K "_law_long" "_law_long" (defArgs (top 40)) (defBody (top 40)) (defScope (top 40)) [] [] (He.ga K "_law_long") fd := c.a.def_ 21 (d := d_21) rfl
  have g21 := He.glo_ok X G (c.a.fact 21 (f := .glo "_law_long") rfl)
  obtain ⟨fd22, D22⟩ : ∃ fd, FunD K "_law_fraction" "_law_fraction" (defArgs (top 41)) (defBody (top 41)) (defScope (top 41)) [] [] (He.ga K "_law_fraction") fd := c.a.def_ 22 (d := d_22) rfl
  have g22 := He.glo_ok X G (c.a.fact 22 (f := .glo "_law_fraction") rfl)
  obtain ⟨fd23, D23⟩ : ∃ fd, FunD K "_law_small" "_law_small" (defArgs (top 42)) (defBody (top 42)) (defScope (top 42)) [] [] (He.ga K "_law_small") fd := c.a.def_ 23 (d := d_23) rfl
  have g23 := He.glo_ok X G (c.a.fact 23 (f := .glo "_law_small") rfl)
  obtain ⟨fd24, D24⟩ : ∃ fd, FunD K "_law_near" "_law_near" (defArgs (top 43)) (defBody (top 43)) (defScope (top 43)) [] [] (He.ga K "_law_near") fd := c.a.def_ 24 (d := d_24) rfl
  have g24 := He.glo_ok X G (c.a.fact 24 (f := .glo "_law_near") rfl)
  obtain ⟨fd25, D25⟩ : ∃ fd, FunD K "_law_table" "_law_table" (defArgs (top 44)) (defBody (top 44)) (defScope (top 44)) [] [] (He.ga K "_law_table") fd := c.a.def_ 25 (d := d_25) rfl
  have g25 := He.glo_ok X G (c.a.fact 25 (f := .glo "_law_table") rfl)
  obtain ⟨fd26, D26⟩ : ∃ fd, FunD K "_law_words" "_law_words" (defArgs (top 45)) (defBody (top 45)) (defScope (top 45)) [] [] (He.ga K "_law_words") fd := c.a.def_ 26 (d := d_26) rfl
  have g26 := He.glo_ok X G (c.a.fact 26 (f := .glo "_law_words") rfl)
  obtain ⟨fd27, D27⟩ : ∃ fd, FunD K "_law_many" "_law_many" (defArgs (top 46)) (defBody (top 46)) (defScope (top 46)) [] [] (He.ga K "_law_many") fd := c.a.def_ 27 (d := d_27) rfl
  have g27 := He.glo_ok X G (c.a.fact 27 (f := .glo "_law_many") rfl)
  obtain ⟨fd28, D28⟩ : ∃ fd, FunD K "_law_filled" "_law_filled" (defArgs (top 47)) (defBody (top 47)) (defScope (top 47)) [] [] (He.ga K "_law_filled") fd := c.a.def_ 28 (d := d_28) rfl
  have g28 := He.glo_ok X G (c.a.fact 28 (f := .glo "_law_filled") rfl)
  obtain ⟨fd29, D29⟩ : ∃ fd, FunD K "_law_read_off" "_law_read_off" (defArgs (top 48)) (defBody (top 48)) (defScope (top 48)) [] [] (He.ga K "_law_read_off") fd := c.a.def_ 29 (d := d_29) rfl
  have g29 := He.glo_ok X G (c.a.fact 29 (f := .glo "_law_read_off") rfl)
  obtain ⟨fd30, D30⟩ : ∃ fd, FunD K "_law_made" "_law_made" (defArgs (top 49)) (defBody (top 49)) (defScope (top 49)) [] [] (He.ga K "_law_made") fd := c.a.def_ 30 (d := d_30) rfl
  have g30 := He.glo_ok X G (c.a.fact 30 (f := .glo "_law_made") rfl)
  obtain ⟨fd31, D31⟩ : ∃ fd, FunD K "_law_bent" "_law_bent" (defArgs (top 50)) (defBody (top 50)) (defScope (top 50)) [] [] (He.ga K "_law_bent") fd := c.a.def_ 31 (d := d_31) rfl
  have g31 := He.glo_ok X G (c.a.fact 31 (f := .glo "_law_bent") rfl)
  obtain ⟨fd32, D32⟩ : ∃ fd, FunD K "_law_words_so" "_law_words_so" (defArgs (top 51)) (defBody (top 51)) (defScope (top 51)) [] [] (He.ga K "_law_words_so") fd := c.a.def_ 32 (d := d_32) rfl
  have g32 := He.glo_ok X G (c.a.fact 32 (f := .glo "_law_words_so") rfl)
  obtain ⟨fd33, D33⟩ : ∃ fd, FunD K "_law_numbers_so" "_law_numbers_so" (defArgs (top 52)) (defBody (top 52)) (defScope (top 52)) [] [] (He.ga K "_law_numbers_so") fd := c.a.def_ 33 (d := d_33) rfl
  have g33 := He.glo_ok X G (c.a.fact 33 (f := .glo "_law_numbers_so") rfl)
  obtain ⟨fd34, D34⟩ : ∃ fd, FunD K "_law_judged_so" "_law_judged_so" (defArgs (top 53)) (defBody (top 53)) (defScope (top 53)) [] [] (He.ga K "_law_judged_so") fd := c.a.def_ 34 (d := d_34) rfl
  have g34 := He.glo_ok X G (c.a.fact 34 (f := .glo "_law_judged_so") rfl)
  obtain ⟨fd35, D35⟩ : ∃ fd, FunD K "law" "law" (defArgs (top 54)) (defBody (top 54)) (defScope (top 54)) [] [] (He.ga K "law") fd := c.a.def_ 35 (d := d_35) rfl
  have g35 := He.glo_ok X G (c.a.fact 35 (f := .glo "law") rfl)
  obtain ⟨fd36, D36⟩ : ∃ fd, FunD K "__init__" "Table.__init__" (defArgs (inCls 20 0)) (defBody (inCls 20 0)) (defScope (inCls 20 0)) [] [] (He.ma K (He.ga K "Table") "__init__") fd := c.a.def_ 36 (d := d_36) rfl
  obtain ⟨fd37, D37⟩ : ∃ fd, FunD K "__add__" "Table.__add__" (defArgs (inCls 20 3)) (defBody (inCls 20 3)) (defScope (inCls 20 3)) [] [] (He.ma K (He.ga K "Table") "__add__") fd := c.a.def_ 37 (d := d_37) rfl
  obtain ⟨fd38, D38⟩ : ∃ fd, FunD K "__sub__" "Table.__sub__" (defArgs (inCls 20 4)) (defBody (inCls 20 4)) (defScope (inCls 20 4)) [] [] (He.ma K (He.ga K "Table") "__sub__") fd := c.a.def_ 38 (d := d_38) rfl
  obtain ⟨fd39, D39⟩ : ∃ fd, FunD K "__neg__" "Table.__neg__" (defArgs (inCls 20 5)) (defBody (inCls 20 5)) (defScope (inCls 20 5)) [] [] (He.ma K (He.ga K "Table") "__neg__") fd := c.a.def_ 39 (d := d_39) rfl
  obtain ⟨fd40, D40⟩ : ∃ fd, FunD K "scaled" "Table.scaled" (defArgs (inCls 20 7)) (defBody (inCls 20 7)) (defScope (inCls 20 7)) [] [] (He.ma K (He.ga K "Table") "scaled") fd := c.a.def_ 40 (d := d_40) rfl
  obtain ⟨fd41, D41⟩ : ∃ fd, FunD K "entries" "Table.entries" (defArgs (inCls 20 9)) (defBody (inCls 20 9)) (defScope (inCls 20 9)) [] [] (He.ma K (He.ga K "Table") "entries") fd := c.a.def_ 41 (d := d_41) rfl
  obtain ⟨fd42, D42⟩ : ∃ fd, FunD K "zero" "Table.zero" (defArgs (inCls 20 11)) (defBody (inCls 20 11)) (defScope (inCls 20 11)) [] [] (He5.wf K (He.ga K "Table") "staticmethod" "zero") fd := c.a.def_ 42 (d := d_42) rfl
  obtain ⟨fd43, D43⟩ : ∃ fd, FunD K "__eq__" "Table.__eq__" (defArgs (inCls 20 12)) (defBody (inCls 20 12)) (defScope (inCls 20 12)) [] [] (He.ma K (He.ga K "Table") "__eq__") fd := c.a.def_ 43 (d := d_43) rfl
  have gC0 := He.glo_ok X G (c.a.fact 37 (f := .glo "Table") rfl)
  have mk0 := He.mkr_ok (c.a.fact 36 (f := .mkr "Table") rfl)
  have eL := hfa.symm.trans g35
  cases eL
  have bL := FunD.bindsA (ps := ["_law_script"]) D35 fun _ _ _ _ _ _ us hl => match us, hl with | [_], _ => rfl
  refine ⟨fd35, fun s v => bL s [v] rfl, fun base _ _ => ?_⟩
  have b16 : Binds K fd16 ["_law_found", "_law_due"] [] := D16.bindsN fun _ _ _ _ _ _ us hl => match us, hl with | [_, _], _ => rfl
  have F16 := same_rec (P := P) (w := w) (base := base) tt D16 g16 b16 20 (by omega)
  have C_6 : CallOk P w K mg base 21 (He.ga K "_law_same") 2 [] (spOf (NN K w) (Gg.fn 6)) := call_all F16 b16
  have b14 : Binds K fd14 ["_law_bag_here", "_law_many_here"] [] := D14.bindsN fun _ _ _ _ _ _ us hl => match us, hl with | [_, _], _ => rfl
  have F14 : FnOk P w K mg base (L2.CX P w) 1 (He.ga K "_law_draw") fd14 ["_law_bag_here", "_law_many_here"] (spOf (NN K w) (drawT)) := fn_sound (sx_of (cf := cf__law_draw) (G := Gg) (k := 0) tt (by decide +kernel) (.inl rfl) (by decide +kernel) fns_nil (fun _ _ _ _ _ e => by cases e) (fun _ _ _ e => by cases e) (fun _ => rfl) (fun g x e => subN_ok (l := []) (by decide +kernel) e) (fun g e h => h) (fun c x e => subL_ok (α := Str) (l := []) (m := TT.cl) (by decide +kernel) e) (fun _ _ e => by cases e) (fun c i e => by simpa [Gg, Tbl.has] using e)) D14 sc__law_draw c__law_draw rfl (draw_ok Gg)
  have C_5 : CallOk P w K mg base 1 (He.ga K "_law_draw") 2 [] (spOf (NN K w) (Gg.fn 5)) := call_all F14 b14
  have b15 : Binds K fd15 ["_law_bag_here", "_law_some"] [] := D15.bindsN fun _ _ _ _ _ _ us hl => match us, hl with | [_, _], _ => rfl
  have F15 : FnOk P w K mg base (L2.CX P w) 2 (He.ga K "_law_pick") fd15 ["_law_bag_here", "_law_some"] (spOf (NN K w) (pickT)) := fn_sound (sx_of (cf := cf__law_pick) (G := Gg) (k := 1) tt (by decide +kernel) (.inl rfl) (by decide +kernel) (fns_cons g14 D14.kp C_5 (by decide) fns_nil) (fun _ _ _ _ _ e => by cases e) (fun _ _ _ e => by cases e) (fun _ => rfl) (fun g x e => subN_ok (l := []) (by decide +kernel) e) (fun g e h => h) (fun c x e => subL_ok (α := Str) (l := []) (m := TT.cl) (by decide +kernel) e) (fun _ _ e => by cases e) (fun c i e => by simpa [Gg, Tbl.has] using e)) D15 sc__law_pick c__law_pick rfl (pick_ok Gg rfl)
  have C_11 : CallOk P w K mg base 2 (He.ga K "_law_pick") 2 [] (spOf (NN K w) (Gg.fn 11)) := call_all F15 b15
  have b17 : Binds K fd17 ["_law_p", "_law_q"] [] := D17.bindsN fun _ _ _ _ _ _ us hl => match us, hl with | [_, _], _ => rfl
  have F17 : FnOk P w K mg base (L2.CX P w) 1 (He.ga K "_law_common") fd17 ["_law_p", "_law_q"] (spOf (NN K w) (fnT rCommon)) := fn_sound (sx_of (cf := cf__law_common) (G := Gg) (k := 0) tt (by decide +kernel) (.inl rfl) (by decide +kernel) fns_nil (fun _ _ _ _ _ e => by cases e) (fun _ _ _ e => by cases e) (fun _ => rfl) (fun g x e => subN_ok (l := []) (by decide +kernel) e) (fun g e h => h) (fun c x e => subL_ok (α := Str) (l := []) (m := TT.cl) (by decide +kernel) e) (fun _ _ e => by cases e) (fun c i e => by simpa [Gg, Tbl.has] using e)) D17 sc__law_common c__law_common rfl (common_ok Gg)
  have C_7 : CallOk P w K mg base 1 (He.ga K "_law_common") 2 [] (spOf (NN K w) (Gg.fn 7)) := call_all F17 b17
  have b18 : Binds K fd18 ["_law_p", "_law_q"] [] := D18.bindsN fun _ _ _ _ _ _ us hl => match us, hl with | [_, _], _ => rfl
  have F18 : FnOk P w K mg base (L2.CX P w) 2 (He.ga K "_law_low") fd18 ["_law_p", "_law_q"] (spOf (NN K w) (fnT rLow)) := fn_sound (sx_of (cf := cf__law_low) (G := Gg) (k := 1) tt (by decide +kernel) (.inl rfl) (by decide +kernel) (fns_cons g17 D17.kp C_7 (by decide) fns_nil) (fun _ _ _ _ _ e => by cases e) (fun _ _ _ e => by cases e) (fun _ => rfl) (fun g x e => subN_ok (l := []) (by decide +kernel) e) (fun g e h => h) (fun c x e => subL_ok (α := Str) (l := []) (m := TT.cl) (by decide +kernel) e) (fun _ _ e => by cases e) (fun c i e => by simpa [Gg, Tbl.has] using e)) D18 sc__law_low c__law_low rfl (low_ok Gg rfl)
  have C_10 : CallOk P w K mg base 2 (He.ga K "_law_low") 2 [] (spOf (NN K w) (Gg.fn 10)) := call_all F18 b18
  have b23 : Binds K fd23 ["_law_bag_here"] [] := D23.bindsN fun _ _ _ _ _ _ us hl => match us, hl with | [_], _ => rfl
  have F23 : FnOk P w K mg base (L2.CX P w) 3 (He.ga K "_law_small") fd23 ["_law_bag_here"] (spOf (NN K w) (bT (fun ds => ds = []) rSmall)) := fn_sound (sx_of (cf := cf__law_small) (G := Gg) (k := 2) tt (by decide +kernel) (.inl rfl) (by decide +kernel) (fns_cons g14 D14.kp C_5 (by decide) (fns_cons g18 D18.kp C_10 (by decide) (fns_cons g15 D15.kp C_11 (by decide) fns_nil))) (fun _ _ _ _ _ e => by cases e) (fun _ _ _ e => by cases e) (fun _ => rfl) (fun g x e => subN_ok (l := []) (by decide +kernel) e) (fun g e h => h) (fun c x e => subL_ok (α := Str) (l := []) (m := TT.cl) (by decide +kernel) e) (fun _ _ e => by cases e) (fun c i e => by simpa [Gg, Tbl.has] using e)) D23 sc__law_small c__law_small rfl (small_ok Gg rfl rfl rfl)
  have C_12 : CallOk P w K mg base 3 (He.ga K "_law_small") 1 [] (spOf (NN K w) (Gg.fn 12)) := call_all F23 b23
  have b20 : Binds K fd20 ["_law_x", "_law_y"] [] := D20.bindsN fun _ _ _ _ _ _ us hl => match us, hl with | [_, _], _ => rfl
  have F20 : FnOk P w K mg base (L2.CX P w) 3 (He.ga K "_law_product") fd20 ["_law_x", "_law_y"] (spOf (NN K w) (fnT rTimes)) := fn_sound (sx_of (cf := cf__law_product) (G := Gg) (k := 2) tt (by decide +kernel) (.inl rfl) (by decide +kernel) (fns_cons g18 D18.kp C_10 (by decide) fns_nil) (fun _ _ _ _ _ e => by cases e) (fun _ _ _ e => by cases e) (fun _ => rfl) (fun g x e => subN_ok (l := []) (by decide +kernel) e) (fun g e h => h) (fun c x e => subL_ok (α := Str) (l := []) (m := TT.cl) (by decide +kernel) e) (fun _ _ e => by cases e) (fun c i e => by simpa [Gg, Tbl.has] using e)) D20 sc__law_product c__law_product rfl (prod_ok Gg rfl)
  have C_40 : CallOk P w K mg base 3 (He.ga K "_law_product") 2 [] (spOf (NN K w) (Gg.fn 40)) := call_all F20 b20
  have b19 : Binds K fd19 ["_law_x", "_law_y"] [] := D19.bindsN fun _ _ _ _ _ _ us hl => match us, hl with | [_, _], _ => rfl
  have F19 : FnOk P w K mg base (L2.CX P w) 3 (He.ga K "_law_sum") fd19 ["_law_x", "_law_y"] (spOf (NN K w) (fnT rPlus)) := fn_sound (sx_of (cf := cf__law_sum) (G := Gg) (k := 2) tt (by decide +kernel) (.inl rfl) (by decide +kernel) (fns_cons g18 D18.kp C_10 (by decide) fns_nil) (fun _ _ _ _ _ e => by cases e) (fun _ _ _ e => by cases e) (fun _ => rfl) (fun g x e => subN_ok (l := []) (by decide +kernel) e) (fun g e h => h) (fun c x e => subL_ok (α := Str) (l := []) (m := TT.cl) (by decide +kernel) e) (fun _ _ e => by cases e) (fun c i e => by simpa [Gg, Tbl.has] using e)) D19 sc__law_sum c__law_sum rfl (sum_ok Gg rfl)
  have C_45 : CallOk P w K mg base 3 (He.ga K "_law_sum") 2 [] (spOf (NN K w) (Gg.fn 45)) := call_all F19 b19
  have b31 : Binds K fd31 ["_law_bag_here", "_law_t"] [] := D31.bindsN fun _ _ _ _ _ _ us hl => match us, hl with | [_, _], _ => rfl
  have F31 : FnOk P w K mg base (L2.CX P w) 4 (He.ga K "_law_bent") fd31 ["_law_bag_here", "_law_t"] (spOf (NN K w) (bentT)) := fn_sound (sx_of (cf := cf__law_bent) (G := Gg) (k := 3) tt (by decide +kernel) (.inl rfl) (by decide +kernel) (fns_cons g14 D14.kp C_5 (by decide) (fns_cons g15 D15.kp C_11 (by decide) (fns_cons g23 D23.kp C_12 (by decide) (fns_cons g20 D20.kp C_40 (by decide) (fns_cons g19 D19.kp C_45 (by decide) fns_nil))))) (fun _ _ _ _ _ e => by cases e) (fun _ _ _ e => by cases e) (fun _ => rfl) (fun g x e => subN_ok (l := []) (by decide +kernel) e) (fun g e h => h) (fun c x e => subL_ok (α := Str) (l := []) (m := TT.cl) (by decide +kernel) e) (fun _ _ e => by cases e) (fun c i e => by simpa [Gg, Tbl.has] using e)) D31 sc__law_bent c__law_bent rfl (bent1_ok Gg rfl rfl rfl rfl rfl)
  have C_25 : CallOk P w K mg base 4 (He.ga K "_law_bent") 2 [] (spOf (NN K w) (Gg.fn 25)) := call_all F31 b31
  have b22 : Binds K fd22 ["_law_bag_here"] [] := D22.bindsN fun _ _ _ _ _ _ us hl => match us, hl with | [_], _ => rfl
  have F22 : FnOk P w K mg base (L2.CX P w) 3 (He.ga K "_law_fraction") fd22 ["_law_bag_here"] (spOf (NN K w) (bT (fun ds => ds = []) rSmall)) := fn_sound (sx_of (cf := cf__law_fraction) (G := Gg) (k := 2) tt (by decide +kernel) (.inl rfl) (by decide +kernel) (fns_cons g14 D14.kp C_5 (by decide) (fns_cons g18 D18.kp C_10 (by decide) (fns_cons g15 D15.kp C_11 (by decide) fns_nil))) (fun _ _ _ _ _ e => by cases e) (fun _ _ _ e => by cases e) (fun _ => rfl) (fun g x e => subN_ok (l := []) (by decide +kernel) e) (fun g e h => h) (fun c x e => subL_ok (α := Str) (l := []) (m := TT.cl) (by decide +kernel) e) (fun _ _ e => by cases e) (fun c i e => by simpa [Gg, Tbl.has] using e)) D22 sc__law_fraction c__law_fraction rfl (fraction_draw Gg rfl rfl rfl)
  have C_32 : CallOk P w K mg base 3 (He.ga K "_law_fraction") 1 [] (spOf (NN K w) (Gg.fn 32)) := call_all F22 b22
  have b13 : Binds K fd13 ["_law_script"] [] := D13.bindsN fun _ _ _ _ _ _ us hl => match us, hl with | [_], _ => rfl
  have F13 : FnOk P w K mg base (L2.CX P w) 1 (He.ga K "_law_bag") fd13 ["_law_script"] (spOf (NN K w) (bagT)) := fn_sound (sx_of (cf := cf__law_bag) (G := Gg) (k := 0) tt (by decide +kernel) (.inl rfl) (by decide +kernel) fns_nil (fun _ _ _ _ _ e => by cases e) (fun _ _ _ e => by cases e) (fun _ => rfl) (fun g x e => subN_ok (l := []) (by decide +kernel) e) (fun g e h => h) (fun c x e => subL_ok (α := Str) (l := []) (m := TT.cl) (by decide +kernel) e) (fun _ _ e => by cases e) (fun c i e => by simpa [Gg, Tbl.has] using e)) D13 sc__law_bag c__law_bag rfl (bag_ok Gg)
  have C_33 : CallOk P w K mg base 1 (He.ga K "_law_bag") 1 [] (spOf (NN K w) (Gg.fn 33)) := call_all F13 b13
  have b43 : Binds K fd43 ["self", "other"] [] := D43.bindsN fun _ _ _ _ _ _ us hl => match us, hl with | [_, _], _ => rfl
  have F43 : FnOk P w K mg base (L2.CX P w) 1 (He.ma K (He.ga K "Table") "__eq__") fd43 ["self", "other"] (spOf (NN K w) (eqtT)) := fn_sound (sx_of (cf := cf_Table___eq__) (G := Gg) (k := 0) tt (by decide +kernel) (.inl rfl) (by decide +kernel) fns_nil (fun _ _ _ _ _ e => by cases e) (fun _ _ _ e => by cases e) (fun _ => rfl) (fun g x e => subN_ok (l := []) (by decide +kernel) e) (fun g e h => h) (fun c x e => subL_ok (α := Str) (l := [(0, "Table")]) (m := TT.cl) (by decide +kernel) e) (fun i n e => subL_ok (α := Str) (l := [(0, "d"), (1, "c"), (2, "b"), (3, "a")]) (m := TT.fl) (by decide +kernel) e) (fun c i e => by simpa [Gg, Tbl.has] using e)) D43 sc_Table___eq__ c_Table___eq__ rfl (eqt_ok Gg)
  have C_36 : CallOk P w K mg base 1 (He.ma K (He.ga K "Table") "__eq__") 2 [] (spOf (NN K w) (Gg.fn 36)) := call_all F43 b43
  have M_36 := He.meth_ok (c.a.fact 38 (f := .meth "Table" "__eq__") rfl)
  have b0 : Binds K fd0 ["value"] [] := D0.bindsN fun _ _ _ _ _ _ us hl => match us, hl with | [_], _ => rfl
  have F0 : FnOk P w K mg base (L2.CX P w) 1 (He.ga K "_is_number") fd0 ["value"] (spOf (NN K w) (fnT rWhole)) := fn_sound (sx_of (cf := cf__is_number) (G := Gg) (k := 0) tt (by decide +kernel) (.inl rfl) (by decide +kernel) fns_nil (fun _ _ _ _ _ e => by cases e) (fun _ _ _ e => by cases e) (fun _ => rfl) (fun g x e => subN_ok (l := []) (by decide +kernel) e) (fun g e h => h) (fun c x e => subL_ok (α := Str) (l := []) (m := TT.cl) (by decide +kernel) e) (fun _ _ e => by cases e) (fun c i e => by simpa [Gg, Tbl.has] using e)) D0 sc__is_number c__is_number rfl (number_ok Gg)
  have C_0 : CallOk P w K mg base 1 (He.ga K "_is_number") 1 [] (spOf (NN K w) (Gg.fn 0)) := call_all F0 b0
  have b1 : Binds K fd1 ["value"] [] := D1.bindsN fun _ _ _ _ _ _ us hl => match us, hl with | [_], _ => rfl
  have F1 : FnOk P w K mg base (L2.CX P w) 2 (He.ga K "is_fraction") fd1 ["value"] (spOf (NN K w) (fnT rIsFr)) := fn_sound (sx_of (cf := cf_is_fraction) (G := Gg) (k := 1) tt (by decide +kernel) (.inl rfl) (by decide +kernel) (fns_cons g0 D0.kp C_0 (by decide) fns_nil) (fun _ _ _ _ _ e => by cases e) (fun _ _ _ e => by cases e) (fun _ => rfl) (fun g x e => subN_ok (l := []) (by decide +kernel) e) (fun g e h => h) (fun c x e => subL_ok (α := Str) (l := []) (m := TT.cl) (by decide +kernel) e) (fun _ _ e => by cases e) (fun c i e => by simpa [Gg, Tbl.has] using e)) D1 sc_is_fraction c_is_fraction rfl (isfrac_ok Gg rfl)
  have C_1 : CallOk P w K mg base 2 (He.ga K "is_fraction") 1 [] (spOf (NN K w) (Gg.fn 1)) := call_all F1 b1
  have b36 : Binds K fd36 ["self", "a", "b", "c", "d"] [] := D36.bindsN fun _ _ _ _ _ _ us hl => match us, hl with | [_, _, _, _, _], _ => rfl
  have F36 : FnOk P w K mg base (L2.CX P w) 3 (He.ma K (He.ga K "Table") "__init__") fd36 ["self", "a", "b", "c", "d"] (spOf (NN K w) (initT)) := fn_sound (sx_of (cf := cf_Table___init__) (G := Gg) (k := 2) tt (by decide +kernel) (.inl rfl) (by decide +kernel) (fns_cons g1 D1.kp C_1 (by decide) fns_nil) (fun _ _ _ _ _ e => by cases e) (fun _ _ _ e => by cases e) (fun _ => rfl) (fun g x e => subN_ok (l := []) (by decide +kernel) e) (fun g e h => h) (fun c x e => subL_ok (α := Str) (l := []) (m := TT.cl) (by decide +kernel) e) (fun i n e => subL_ok (α := Str) (l := [(0, "d"), (1, "c"), (2, "b"), (3, "a")]) (m := TT.fl) (by decide +kernel) e) (fun c i e => by simpa [Gg, Tbl.has] using e)) D36 sc_Table___init__ c_Table___init__ rfl (init_ok Gg rfl (by decide))
  have I_34 : CallOk P w K mg base 3 (He.ma K (He.ga K "Table") "__init__") 5 [] (spOf (NN K w) (initT)) := call_all F36 b36
  have C_34 : CallOk P w K mg base 4 (He.ga K "Table") 4 [] (spOf (NN K w) (Gg.fn 34)) := callOk_imp (call_make (c := 0) mk0 (show (0 : Nat) ∈ TT.okL by decide +kernel) rfl I_34) (sp_imp (fun _ _ _ => make_conv))
  have b6 : Binds K fd6 ["one"] [] := D6.bindsN fun _ _ _ _ _ _ us hl => match us, hl with | [_], _ => rfl
  have F6 : FnOk P w K mg base (L2.CX P w) 1 (He.ga K "negative") fd6 ["one"] (spOf (NN K w) (negT)) := fn_sound (sx_of (cf := cf_negative) (G := Gg) (k := 0) tt (by decide +kernel) (.inl rfl) (by decide +kernel) fns_nil (fun _ _ _ _ _ e => by cases e) (fun _ _ _ e => by cases e) (fun _ => rfl) (fun g x e => subN_ok (l := []) (by decide +kernel) e) (fun g e h => h) (fun c x e => subL_ok (α := Str) (l := []) (m := TT.cl) (by decide +kernel) e) (fun _ _ e => by cases e) (fun c i e => by simpa [Gg, Tbl.has] using e)) D6 sc_negative c_negative rfl (neg_ok Gg)
  have C_35 : CallOk P w K mg base 1 (He.ga K "negative") 1 [] (spOf (NN K w) (Gg.fn 35)) := call_all F6 b6
  have b10 : Binds K fd10 ["kind", "numbers"] [] := D10.bindsN fun _ _ _ _ _ _ us hl => match us, hl with | [_, _], _ => rfl
  have F10 : FnOk P w K mg base (L2.CX P w) 5 (He.ga K "table_of") fd10 ["kind", "numbers"] (spOf (NN K w) (tabT)) := fn_sound (sx_of (cf := cf_table_of) (G := Gg) (k := 4) tt (by decide +kernel) (.inl rfl) (by decide +kernel) (fns_cons gC0 mk0.kp C_34 (by decide) (fns_cons g6 D6.kp C_35 (by decide) fns_nil)) (fun _ _ _ _ _ e => by cases e) (fun _ _ _ e => by cases e) (fun _ => rfl) (fun g x e => subN_ok (l := [(4, "ZERO")]) (by decide +kernel) e) (fun g e h => h) (fun c x e => subL_ok (α := Str) (l := []) (m := TT.cl) (by decide +kernel) e) (fun _ _ e => by cases e) (fun c i e => by simpa [Gg, Tbl.has] using e)) D10 sc_table_of c_table_of rfl (table_of_ok Gg rfl rfl rfl)
  have C_37 : CallOk P w K mg base 5 (He.ga K "table_of") 2 [] (spOf (NN K w) (Gg.fn 37)) := call_all F10 b10
  have kb56 := kbn_none (n := 0) (ks := ["numbers", "kind"]) (ps := ["kind", "numbers"]) (ix := [.inl 1, .inl 0]) D10 fun _ _ _ _ _ _ us ws h1 h2 => match us, ws, h1, h2 with | [], [_, _], _, _ => rfl
  have C_56 : CallOk P w K mg base 5 (He.ga K "table_of") 0 ["numbers", "kind"] (spOf (NN K w) (Gg.fn 56)) := callOk_imp (call_arr (ix := [.inl 1, .inl 0]) (ds := []) (dvs := []) F10 kb56 (fun j d e => by cases e) (fun vs l => by
    match vs, l with
    | [_, _], _ => rfl)) (sp_imp (fun _ _ _ => tab_sw))
  have b41 : Binds K fd41 ["self"] [] := D41.bindsN fun _ _ _ _ _ _ us hl => match us, hl with | [_], _ => rfl
  have F41 : FnOk P w K mg base (L2.CX P w) 1 (He.ma K (He.ga K "Table") "entries") fd41 ["self"] (spOf (NN K w) (entT)) := fn_sound (sx_of (cf := cf_Table_entries) (G := Gg) (k := 0) tt (by decide +kernel) (.inl rfl) (by decide +kernel) fns_nil (fun _ _ _ _ _ e => by cases e) (fun _ _ _ e => by cases e) (fun _ => rfl) (fun g x e => subN_ok (l := []) (by decide +kernel) e) (fun g e h => h) (fun c x e => subL_ok (α := Str) (l := []) (m := TT.cl) (by decide +kernel) e) (fun i n e => subL_ok (α := Str) (l := [(0, "d"), (1, "c"), (2, "b"), (3, "a")]) (m := TT.fl) (by decide +kernel) e) (fun c i e => by simpa [Gg, Tbl.has] using e)) D41 sc_Table_entries c_Table_entries rfl (ent_ok Gg)
  have C_38 : CallOk P w K mg base 1 (He.ma K (He.ga K "Table") "entries") 1 [] (spOf (NN K w) (Gg.fn 38)) := call_all F41 b41
  have M_38 := He.meth_ok (c.a.fact 39 (f := .meth "Table" "entries") rfl)
  have b11 : Binds K fd11 ["kind", "table"] [] := D11.bindsN fun _ _ _ _ _ _ us hl => match us, hl with | [_, _], _ => rfl
  have F11 : FnOk P w K mg base (L2.CX P w) 6 (He.ga K "own_numbers") fd11 ["kind", "table"] (spOf (NN K w) (ownT)) := fn_sound (sx_of (cf := cf_own_numbers) (G := Gg) (k := 5) tt (by decide +kernel) (.inl rfl) (by decide +kernel) (fns_cons g10 D10.kp C_37 (by decide) fns_nil) (fun h m cs n ks e => (mss_cons (h0 := 38) (q := ("entries", [0], 0, [])) (ms_one tt (by decide +kernel) (by decide +kernel) M_38 C_38 (by decide)) mss_nil) h m cs n ks e) (fun h kd cs e => (opss_cons (h0 := 36) (q := (.eq, [0])) (op_eq (fun _ Q X h => eqt_two (Q := Q) (X := X) h) M_36 C_36 (by decide)) opss_nil) h kd cs e) (fun _ => rfl) (fun g x e => subN_ok (l := []) (by decide +kernel) e) (fun g e h => h) (fun c x e => subL_ok (α := Str) (l := []) (m := TT.cl) (by decide +kernel) e) (fun _ _ e => by cases e) (fun c i e => by simpa [Gg, Tbl.has] using e)) D11 sc_own_numbers c_own_numbers rfl (own_ok Gg rfl rfl rfl)
  have C_39 : CallOk P w K mg base 6 (He.ga K "own_numbers") 2 [] (spOf (NN K w) (Gg.fn 39)) := call_all F11 b11
  have kb54 := kbn_none (n := 0) (ks := ["table", "kind"]) (ps := ["kind", "table"]) (ix := [.inl 1, .inl 0]) D11 fun _ _ _ _ _ _ us ws h1 h2 => match us, ws, h1, h2 with | [], [_, _], _, _ => rfl
  have C_54 : CallOk P w K mg base 6 (He.ga K "own_numbers") 0 ["table", "kind"] (spOf (NN K w) (Gg.fn 54)) := callOk_imp (call_arr (ix := [.inl 1, .inl 0]) (ds := []) (dvs := []) F11 kb54 (fun j d e => by cases e) (fun vs l => by
    match vs, l with
    | [_, _], _ => rfl)) (sp_imp (fun _ _ _ => own_sw))
  have b28 : Binds K fd28 ["_law_word", "_law_nums"] [] := D28.bindsN fun _ _ _ _ _ _ us hl => match us, hl with | [_, _], _ => rfl
  have F28 : FnOk P w K mg base (L2.CX P w) 4 (He.ga K "_law_filled") fd28 ["_law_word", "_law_nums"] (spOf (NN K w) (filT)) := fn_sound (sx_of (cf := cf__law_filled) (G := Gg) (k := 3) tt (by decide +kernel) (.inl rfl) (by decide +kernel) (fns_cons g20 D20.kp C_40 (by decide) fns_nil) (fun _ _ _ _ _ e => by cases e) (fun _ _ _ e => by cases e) (fun _ => rfl) (fun g x e => subN_ok (l := []) (by decide +kernel) e) (fun g e h => h) (fun c x e => subL_ok (α := Str) (l := []) (m := TT.cl) (by decide +kernel) e) (fun _ _ e => by cases e) (fun c i e => by simpa [Gg, Tbl.has] using e)) D28 sc__law_filled c__law_filled rfl (filled_ok Gg rfl)
  have C_43 : CallOk P w K mg base 4 (He.ga K "_law_filled") 2 [] (spOf (NN K w) (Gg.fn 43)) := call_all F28 b28
  have b27 : Binds K fd27 ["_law_word"] [] := D27.bindsN fun _ _ _ _ _ _ us hl => match us, hl with | [_], _ => rfl
  have F27 : FnOk P w K mg base (L2.CX P w) 1 (He.ga K "_law_many") fd27 ["_law_word"] (spOf (NN K w) (kcT)) := fn_sound (sx_of (cf := cf__law_many) (G := Gg) (k := 0) tt (by decide +kernel) (.inl rfl) (by decide +kernel) fns_nil (fun _ _ _ _ _ e => by cases e) (fun _ _ _ e => by cases e) (fun _ => rfl) (fun g x e => subN_ok (l := []) (by decide +kernel) e) (fun g e h => h) (fun c x e => subL_ok (α := Str) (l := []) (m := TT.cl) (by decide +kernel) e) (fun _ _ e => by cases e) (fun c i e => by simpa [Gg, Tbl.has] using e)) D27 sc__law_many c__law_many rfl (many_ok Gg)
  have C_44 : CallOk P w K mg base 1 (He.ga K "_law_many") 1 [] (spOf (NN K w) (Gg.fn 44)) := call_all F27 b27
  have b42 : Binds K fd42 [] [] := D42.bindsN fun _ _ _ _ _ _ us hl => match us, hl with | [], _ => rfl
  have F42 : FnOk P w K mg base (L2.CX P w) 5 (He5.wf K (He.ga K "Table") "staticmethod" "zero") fd42 [] (spOf (NN K w) (zeroT)) := fn_sound (sx_of (cf := cf_Table_zero) (G := Gg) (k := 4) tt (by decide +kernel) (.inl rfl) (by decide +kernel) (fns_cons gC0 mk0.kp C_34 (by decide) fns_nil) (fun _ _ _ _ _ e => by cases e) (fun _ _ _ e => by cases e) (fun _ => rfl) (fun g x e => subN_ok (l := [(4, "ZERO")]) (by decide +kernel) e) (fun g e h => h) (fun c x e => subL_ok (α := Str) (l := []) (m := TT.cl) (by decide +kernel) e) (fun _ _ e => by cases e) (fun c i e => by simpa [Gg, Tbl.has] using e)) D42 sc_Table_zero c_Table_zero rfl (zero_ok Gg rfl rfl)
  have C_48 : CallOk P w K mg base 5 (He5.wf K (He.ga K "Table") "staticmethod" "zero") 0 [] (spOf (NN K w) (Gg.fn 48)) := call_all F42 b42
  have M_48 := statB_ok x0
  have b26 : Binds K fd26 [] [] := D26.bindsN fun _ _ _ _ _ _ us hl => match us, hl with | [], _ => rfl
  have F26 : FnOk P w K mg base (L2.CX P w) 1 (He.ga K "_law_words") fd26 [] (spOf (NN K w) (wordsT)) := fn_sound (sx_of (cf := cf__law_words) (G := Gg) (k := 0) tt (by decide +kernel) (.inl rfl) (by decide +kernel) fns_nil (fun _ _ _ _ _ e => by cases e) (fun _ _ _ e => by cases e) (fun _ => rfl) (fun g x e => subN_ok (l := []) (by decide +kernel) e) (fun g e h => h) (fun c x e => subL_ok (α := Str) (l := []) (m := TT.cl) (by decide +kernel) e) (fun _ _ e => by cases e) (fun c i e => by simpa [Gg, Tbl.has] using e)) D26 sc__law_words c__law_words rfl (words_ok Gg)
  have C_53 : CallOk P w K mg base 1 (He.ga K "_law_words") 0 [] (spOf (NN K w) (Gg.fn 53)) := call_all F26 b26
  have b12 : Binds K fd12 ["kind", "table"] [] := D12.bindsN fun _ _ _ _ _ _ us hl => match us, hl with | [_, _], _ => rfl
  have F12 : FnOk P w K mg base (L2.CX P w) 7 (He.ga K "fits") fd12 ["kind", "table"] (spOf (NN K w) (fitT)) := fn_sound (sx_of (cf := cf_fits) (G := Gg) (k := 6) tt (by decide +kernel) (.inl rfl) (by decide +kernel) (fns_cons g11 D11.kp C_39 (by decide) fns_nil) (fun _ _ _ _ _ e => by cases e) (fun _ _ _ e => by cases e) (fun _ => rfl) (fun g x e => subN_ok (l := []) (by decide +kernel) e) (fun g e h => h) (fun c x e => subL_ok (α := Str) (l := []) (m := TT.cl) (by decide +kernel) e) (fun _ _ e => by cases e) (fun c i e => by simpa [Gg, Tbl.has] using e)) D12 sc_fits c_fits rfl (fits_ok Gg rfl)
  have C_55 : CallOk P w K mg base 7 (He.ga K "fits") 2 [] (spOf (NN K w) (Gg.fn 55)) := call_all F12 b12
  have kb57 := kbn_none (n := 0) (ks := ["table", "kind"]) (ps := ["kind", "table"]) (ix := [.inl 1, .inl 0]) D12 fun _ _ _ _ _ _ us ws h1 h2 => match us, ws, h1, h2 with | [], [_, _], _, _ => rfl
  have C_57 : CallOk P w K mg base 7 (He.ga K "fits") 0 ["table", "kind"] (spOf (NN K w) (Gg.fn 57)) := callOk_imp (call_arr (ix := [.inl 1, .inl 0]) (ds := []) (dvs := []) F12 kb57 (fun j d e => by cases e) (fun vs l => by
    match vs, l with
    | [_, _], _ => rfl)) (sp_imp (fun _ _ _ => pT_sw2))
  have b30 : Binds K fd30 ["_law_t"] [] := D30.bindsN fun _ _ _ _ _ _ us hl => match us, hl with | [_], _ => rfl
  have F30 : FnOk P w K mg base (L2.CX P w) 5 (He.ga K "_law_made") fd30 ["_law_t"] (spOf (NN K w) (madeT)) := fn_sound (sx_of (cf := cf__law_made) (G := Gg) (k := 4) tt (by decide +kernel) (.inl rfl) (by decide +kernel) (fns_cons gC0 mk0.kp C_34 (by decide) fns_nil) (fun _ _ _ _ _ e => by cases e) (fun _ _ _ e => by cases e) (fun _ => rfl) (fun g x e => subN_ok (l := []) (by decide +kernel) e) (fun g e h => h) (fun c x e => subL_ok (α := Str) (l := []) (m := TT.cl) (by decide +kernel) e) (fun _ _ e => by cases e) (fun c i e => by simpa [Gg, Tbl.has] using e)) D30 sc__law_made c__law_made rfl (made_ok Gg rfl)
  have C_59 : CallOk P w K mg base 5 (He.ga K "_law_made") 1 [] (spOf (NN K w) (Gg.fn 59)) := call_all F30 b30
  have b39 : Binds K fd39 ["self"] [] := D39.bindsN fun _ _ _ _ _ _ us hl => match us, hl with | [_], _ => rfl
  have F39 : FnOk P w K mg base (L2.CX P w) 5 (He.ma K (He.ga K "Table") "__neg__") fd39 ["self"] (spOf (NN K w) (negtT)) := fn_sound (sx_of (cf := cf_Table___neg__) (G := Gg) (k := 4) tt (by decide +kernel) (.inl rfl) (by decide +kernel) (fns_cons gC0 mk0.kp C_34 (by decide) (fns_cons g6 D6.kp C_35 (by decide) fns_nil)) (fun _ _ _ _ _ e => by cases e) (fun _ _ _ e => by cases e) (fun _ => rfl) (fun g x e => subN_ok (l := []) (by decide +kernel) e) (fun g e h => h) (fun c x e => subL_ok (α := Str) (l := []) (m := TT.cl) (by decide +kernel) e) (fun i n e => subL_ok (α := Str) (l := [(0, "d"), (1, "c"), (2, "b"), (3, "a")]) (m := TT.fl) (by decide +kernel) e) (fun c i e => by simpa [Gg, Tbl.has] using e)) D39 sc_Table___neg__ c_Table___neg__ rfl (negt_ok Gg rfl rfl)
  have C_60 : CallOk P w K mg base 5 (He.ma K (He.ga K "Table") "__neg__") 1 [] (spOf (NN K w) (Gg.fn 60)) := call_all F39 b39
  have M_60 := He.meth_ok (c.a.fact 40 (f := .meth "Table" "__neg__") rfl)
  have F2 : FnOk P w K mg base (L2.CX P w) 1 (He.ga K "fraction") fd2 ["over", "under"] (spOf (NN K w) (fnT rLow)) := fn_sound (sx_of (cf := cf_fraction) (G := Gg) (k := 0) tt (by decide +kernel) (.inl rfl) (by decide +kernel) fns_nil (fun _ _ _ _ _ e => by cases e) (fun _ _ _ e => by cases e) (fun _ => rfl) (fun g x e => subN_ok (l := []) (by decide +kernel) e) (fun g e h => h) (fun c x e => subL_ok (α := Str) (l := []) (m := TT.cl) (by decide +kernel) e) (fun _ _ e => by cases e) (fun c i e => by simpa [Gg, Tbl.has] using e)) D2 sc_fraction c_fraction rfl (fraction_ok Gg)
  obtain ⟨its2, vd2, kb2⟩ := kbn_dfl (n := 2) (ks := []) (ps := ["over", "under"]) (ix := [.inl 0, .inl 1]) D2 (by simp) fun T _ _ _ _ _ _ us ws its h1 h2 h3 => by
    have h3 : its.length = 1 := h3
    match us, ws, its, h1, h2, h3 with
    | [_, _], [], [_], _, _, _ => exact ⟨_, rfl, rfl⟩
  have C_2 : CallOk P w K mg base 1 (He.ga K "fraction") 2 [] (spOf (NN K w) (Gg.fn 2)) := callOk_imp (call_arr (ix := [.inl 0, .inl 1]) (ds := []) F2 kb2 (fun j d e => by cases e) (fun vs l => by
    match vs, l with
    | [_, _], _ => rfl)) (sp_imp (fun _ _ _ => arr_two' (R := rLow) (T := fnT rLow) (fun _ _ _ => Iff.rfl) (fun ds r z => by
      obtain ⟨x, y, rfl, _⟩ := z; exact ⟨_, _, rfl⟩) _ _ _))
  have b5 : Binds K fd5 ["one", "other"] [] := D5.bindsN fun _ _ _ _ _ _ us hl => match us, hl with | [_, _], _ => rfl
  have F5 : FnOk P w K mg base (L2.CX P w) 2 (He.ga K "times") fd5 ["one", "other"] (spOf (NN K w) (fnT rTimes)) := fn_sound (sx_of (cf := cf_times) (G := Gg) (k := 1) tt (by decide +kernel) (.inl rfl) (by decide +kernel) (fns_cons g2 D2.kp C_2 (by decide) fns_nil) (fun _ _ _ _ _ e => by cases e) (fun _ _ _ e => by cases e) (fun _ => rfl) (fun g x e => subN_ok (l := []) (by decide +kernel) e) (fun g e h => h) (fun c x e => subL_ok (α := Str) (l := []) (m := TT.cl) (by decide +kernel) e) (fun _ _ e => by cases e) (fun c i e => by simpa [Gg, Tbl.has] using e)) D5 sc_times c_times rfl (times_ok Gg rfl)
  have C_29 : CallOk P w K mg base 2 (He.ga K "times") 2 [] (spOf (NN K w) (Gg.fn 29)) := call_all F5 b5
  have b40 : Binds K fd40 ["self", "weight"] [] := D40.bindsN fun _ _ _ _ _ _ us hl => match us, hl with | [_, _], _ => rfl
  have F40 : FnOk P w K mg base (L2.CX P w) 5 (He.ma K (He.ga K "Table") "scaled") fd40 ["self", "weight"] (spOf (NN K w) (scalT)) := fn_sound (sx_of (cf := cf_Table_scaled) (G := Gg) (k := 4) tt (by decide +kernel) (.inl rfl) (by decide +kernel) (fns_cons g5 D5.kp C_29 (by decide) (fns_cons gC0 mk0.kp C_34 (by decide) fns_nil)) (fun _ _ _ _ _ e => by cases e) (fun _ _ _ e => by cases e) (fun _ => rfl) (fun g x e => subN_ok (l := []) (by decide +kernel) e) (fun g e h => h) (fun c x e => subL_ok (α := Str) (l := []) (m := TT.cl) (by decide +kernel) e) (fun i n e => subL_ok (α := Str) (l := [(0, "d"), (1, "c"), (2, "b"), (3, "a")]) (m := TT.fl) (by decide +kernel) e) (fun c i e => by simpa [Gg, Tbl.has] using e)) D40 sc_Table_scaled c_Table_scaled rfl (scal_ok Gg rfl rfl)
  have C_61 : CallOk P w K mg base 5 (He.ma K (He.ga K "Table") "scaled") 2 [] (spOf (NN K w) (Gg.fn 61)) := call_all F40 b40
  have M_61 := He.meth_ok (c.a.fact 41 (f := .meth "Table" "scaled") rfl)
  have b4 : Binds K fd4 ["one", "other"] [] := D4.bindsN fun _ _ _ _ _ _ us hl => match us, hl with | [_, _], _ => rfl
  have F4 : FnOk P w K mg base (L2.CX P w) 2 (He.ga K "minus") fd4 ["one", "other"] (spOf (NN K w) (minusT)) := fn_sound (sx_of (cf := cf_minus) (G := Gg) (k := 1) tt (by decide +kernel) (.inl rfl) (by decide +kernel) (fns_cons g2 D2.kp C_2 (by decide) fns_nil) (fun _ _ _ _ _ e => by cases e) (fun _ _ _ e => by cases e) (fun _ => rfl) (fun g x e => subN_ok (l := []) (by decide +kernel) e) (fun g e h => h) (fun c x e => subL_ok (α := Str) (l := []) (m := TT.cl) (by decide +kernel) e) (fun _ _ e => by cases e) (fun c i e => by simpa [Gg, Tbl.has] using e)) D4 sc_minus c_minus rfl (minus_ok Gg rfl)
  have C_68 : CallOk P w K mg base 2 (He.ga K "minus") 2 [] (spOf (NN K w) (Gg.fn 68)) := call_all F4 b4
  have b38 : Binds K fd38 ["self", "other"] [] := D38.bindsN fun _ _ _ _ _ _ us hl => match us, hl with | [_, _], _ => rfl
  have F38 : FnOk P w K mg base (L2.CX P w) 5 (He.ma K (He.ga K "Table") "__sub__") fd38 ["self", "other"] (spOf (NN K w) (subT)) := fn_sound (sx_of (cf := cf_Table___sub__) (G := Gg) (k := 4) tt (by decide +kernel) (.inl rfl) (by decide +kernel) (fns_cons gC0 mk0.kp C_34 (by decide) (fns_cons g4 D4.kp C_68 (by decide) fns_nil)) (fun _ _ _ _ _ e => by cases e) (fun _ _ _ e => by cases e) (fun _ => rfl) (fun g x e => subN_ok (l := []) (by decide +kernel) e) (fun g e h => h) (fun c x e => subL_ok (α := Str) (l := [(0, "Table")]) (m := TT.cl) (by decide +kernel) e) (fun i n e => subL_ok (α := Str) (l := [(0, "d"), (1, "c"), (2, "b"), (3, "a")]) (m := TT.fl) (by decide +kernel) e) (fun c i e => by simpa [Gg, Tbl.has] using e)) D38 sc_Table___sub__ c_Table___sub__ rfl (sub_ok Gg rfl rfl)
  have C_62 : CallOk P w K mg base 5 (He.ma K (He.ga K "Table") "__sub__") 2 [] (spOf (NN K w) (Gg.fn 62)) := call_all F38 b38
  have M_62 := He.meth_ok (c.a.fact 42 (f := .meth "Table" "__sub__") rfl)
  have b3 : Binds K fd3 ["one", "other"] [] := D3.bindsN fun _ _ _ _ _ _ us hl => match us, hl with | [_, _], _ => rfl
  have F3 : FnOk P w K mg base (L2.CX P w) 2 (He.ga K "plus") fd3 ["one", "other"] (spOf (NN K w) (fnT rPlus)) := fn_sound (sx_of (cf := cf_plus) (G := Gg) (k := 1) tt (by decide +kernel) (.inl rfl) (by decide +kernel) (fns_cons g2 D2.kp C_2 (by decide) fns_nil) (fun _ _ _ _ _ e => by cases e) (fun _ _ _ e => by cases e) (fun _ => rfl) (fun g x e => subN_ok (l := []) (by decide +kernel) e) (fun g e h => h) (fun c x e => subL_ok (α := Str) (l := []) (m := TT.cl) (by decide +kernel) e) (fun _ _ e => by cases e) (fun c i e => by simpa [Gg, Tbl.has] using e)) D3 sc_plus c_plus rfl (plus_ok Gg rfl)
  have C_28 : CallOk P w K mg base 2 (He.ga K "plus") 2 [] (spOf (NN K w) (Gg.fn 28)) := call_all F3 b3
  have b37 : Binds K fd37 ["self", "other"] [] := D37.bindsN fun _ _ _ _ _ _ us hl => match us, hl with | [_, _], _ => rfl
  have F37 : FnOk P w K mg base (L2.CX P w) 5 (He.ma K (He.ga K "Table") "__add__") fd37 ["self", "other"] (spOf (NN K w) (addT)) := fn_sound (sx_of (cf := cf_Table___add__) (G := Gg) (k := 4) tt (by decide +kernel) (.inl rfl) (by decide +kernel) (fns_cons g3 D3.kp C_28 (by decide) (fns_cons gC0 mk0.kp C_34 (by decide) fns_nil)) (fun _ _ _ _ _ e => by cases e) (fun _ _ _ e => by cases e) (fun _ => rfl) (fun g x e => subN_ok (l := []) (by decide +kernel) e) (fun g e h => h) (fun c x e => subL_ok (α := Str) (l := [(0, "Table")]) (m := TT.cl) (by decide +kernel) e) (fun i n e => subL_ok (α := Str) (l := [(0, "d"), (1, "c"), (2, "b"), (3, "a")]) (m := TT.fl) (by decide +kernel) e) (fun c i e => by simpa [Gg, Tbl.has] using e)) D37 sc_Table___add__ c_Table___add__ rfl (add_ok Gg rfl rfl)
  have C_63 : CallOk P w K mg base 5 (He.ma K (He.ga K "Table") "__add__") 2 [] (spOf (NN K w) (Gg.fn 63)) := call_all F37 b37
  have M_63 := He.meth_ok (c.a.fact 43 (f := .meth "Table" "__add__") rfl)
  have b29 : Binds K fd29 ["_law_word", "_law_t"] [] := D29.bindsN fun _ _ _ _ _ _ us hl => match us, hl with | [_, _], _ => rfl
  have F29 : FnOk P w K mg base (L2.CX P w) 5 (He.ga K "_law_read_off") fd29 ["_law_word", "_law_t"] (spOf (NN K w) (readT)) := fn_sound (sx_of (cf := cf__law_read_off) (G := Gg) (k := 4) tt (by decide +kernel) (.inl rfl) (by decide +kernel) (fns_cons g28 D28.kp C_43 (by decide) (fns_cons g27 D27.kp C_44 (by decide) fns_nil)) (fun _ _ _ _ _ e => by cases e) (fun _ _ _ e => by cases e) (fun _ => rfl) (fun g x e => subN_ok (l := []) (by decide +kernel) e) (fun g e h => h) (fun c x e => subL_ok (α := Str) (l := []) (m := TT.cl) (by decide +kernel) e) (fun _ _ e => by cases e) (fun c i e => by simpa [Gg, Tbl.has] using e)) D29 sc__law_read_off c__law_read_off rfl (read_off_ok Gg rfl rfl)
  have C_58 : CallOk P w K mg base 5 (He.ga K "_law_read_off") 2 [] (spOf (NN K w) (Gg.fn 58)) := call_all F29 b29
  have b34 : Binds K fd34 ["_law_t"] [] := D34.bindsN fun _ _ _ _ _ _ us hl => match us, hl with | [_], _ => rfl
  have F34 : FnOk P w K mg base (L2.CX P w) 22 (He.ga K "_law_judged_so") fd34 ["_law_t"] (spOf (NN K w) (judT)) := fn_sound (sx_of (cf := cf__law_judged_so) (G := Gg) (k := 21) tt (by decide +kernel) (.inl rfl) (by decide +kernel) (fns_cons g16 D16.kp C_6 (by decide) (fns_cons g11 D11.kp C_39 (by decide) (fns_cons g26 D26.kp C_53 (by decide) (fns_cons g12 D12.kp C_55 (by decide) (fns_cons g12 D12.kp C_57 (by decide) (fns_cons g29 D29.kp C_58 (by decide) (fns_cons g30 D30.kp C_59 (by decide) fns_nil))))))) (fun _ _ _ _ _ e => by cases e) (fun _ _ _ e => by cases e) (fun _ => rfl) (fun g x e => subN_ok (l := []) (by decide +kernel) e) (fun g e h => h) (fun c x e => subL_ok (α := Str) (l := []) (m := TT.cl) (by decide +kernel) e) (fun _ _ e => by cases e) (fun c i e => by simpa [Gg, Tbl.has] using e)) D34 sc__law_judged_so c__law_judged_so rfl (judged_ok Gg rfl rfl rfl rfl rfl rfl rfl)
  have C_64 : CallOk P w K mg base 22 (He.ga K "_law_judged_so") 1 [] (spOf (NN K w) (Gg.fn 64)) := call_all F34 b34
  have b21 : Binds K fd21 ["_law_v", "_law_w"] [] := D21.bindsN fun _ _ _ _ _ _ us hl => match us, hl with | [_, _], _ => rfl
  have F21 : FnOk P w K mg base (L2.CX P w) 4 (He.ga K "_law_long") fd21 ["_law_v", "_law_w"] (spOf (NN K w) (longT)) := fn_sound (sx_of (cf := cf__law_long) (G := Gg) (k := 3) tt (by decide +kernel) (.inl rfl) (by decide +kernel) (fns_cons g20 D20.kp C_40 (by decide) fns_nil) (fun _ _ _ _ _ e => by cases e) (fun _ _ _ e => by cases e) (fun _ => rfl) (fun g x e => subN_ok (l := []) (by decide +kernel) e) (fun g e h => h) (fun c x e => subL_ok (α := Str) (l := []) (m := TT.cl) (by decide +kernel) e) (fun _ _ e => by cases e) (fun c i e => by simpa [Gg, Tbl.has] using e)) D21 sc__law_long c__law_long rfl (long_ok Gg rfl)
  have C_41 : CallOk P w K mg base 4 (He.ga K "_law_long") 2 [] (spOf (NN K w) (Gg.fn 41)) := call_all F21 b21
  have b24 : Binds K fd24 ["_law_bag_here"] [] := D24.bindsN fun _ _ _ _ _ _ us hl => match us, hl with | [_], _ => rfl
  have F24 : FnOk P w K mg base (L2.CX P w) 4 (He.ga K "_law_near") fd24 ["_law_bag_here"] (spOf (NN K w) (bT Z0 fun _ r => ∃ x y : Rat, r = .tup [fr x, fr y] ∧ Sm 21 x ∧ Sm 21 y)) := fn_sound (sx_of (cf := cf__law_near) (G := Gg) (k := 3) tt (by decide +kernel) (.inl rfl) (by decide +kernel) (fns_cons g23 D23.kp C_12 (by decide) fns_nil) (fun _ _ _ _ _ e => by cases e) (fun _ _ _ e => by cases e) (fun _ => rfl) (fun g x e => subN_ok (l := []) (by decide +kernel) e) (fun g e h => h) (fun c x e => subL_ok (α := Str) (l := []) (m := TT.cl) (by decide +kernel) e) (fun _ _ e => by cases e) (fun c i e => by simpa [Gg, Tbl.has] using e)) D24 sc__law_near c__law_near rfl (near_ok Gg rfl)
  have C_42 : CallOk P w K mg base 4 (He.ga K "_law_near") 1 [] (spOf (NN K w) (Gg.fn 42)) := call_all F24 b24
  have b25 : Binds K fd25 ["_law_bag_here"] [] := D25.bindsN fun _ _ _ _ _ _ us hl => match us, hl with | [_], _ => rfl
  have F25 : FnOk P w K mg base (L2.CX P w) 5 (He.ga K "_law_table") fd25 ["_law_bag_here"] (spOf (NN K w) (bT Z0 fun _ r => ∃ t : Q4, r = t4 t ∧ SmQ 42 t)) := fn_sound (sx_of (cf := cf__law_table) (G := Gg) (k := 4) tt (by decide +kernel) (.inl rfl) (by decide +kernel) (fns_cons g14 D14.kp C_5 (by decide) (fns_cons g23 D23.kp C_12 (by decide) (fns_cons g22 D22.kp C_32 (by decide) (fns_cons g21 D21.kp C_41 (by decide) (fns_cons g24 D24.kp C_42 (by decide) fns_nil))))) (fun _ _ _ _ _ e => by cases e) (fun _ _ _ e => by cases e) (fun _ => rfl) (fun g x e => subN_ok (l := []) (by decide +kernel) e) (fun g e h => h) (fun c x e => subL_ok (α := Str) (l := []) (m := TT.cl) (by decide +kernel) e) (fun _ _ e => by cases e) (fun c i e => by simpa [Gg, Tbl.has] using e)) D25 sc__law_table c__law_table rfl (ltable_ok Gg rfl rfl rfl rfl rfl)
  have C_65 : CallOk P w K mg base 5 (He.ga K "_law_table") 1 [] (spOf (NN K w) (Gg.fn 65)) := call_all F25 b25
  have b33 : Binds K fd33 ["_law_word", "_law_nums"] [] := D33.bindsN fun _ _ _ _ _ _ us hl => match us, hl with | [_, _], _ => rfl
  have F33 : FnOk P w K mg base (L2.CX P w) 22 (He.ga K "_law_numbers_so") fd33 ["_law_word", "_law_nums"] (spOf (NN K w) (numT)) := fn_sound (sx_of (cf := cf__law_numbers_so) (G := Gg) (k := 21) tt (by decide +kernel) (.inl rfl) (by decide +kernel) (fns_cons g16 D16.kp C_6 (by decide) (fns_cons g10 D10.kp C_37 (by decide) (fns_cons g11 D11.kp C_39 (by decide) (fns_cons g28 D28.kp C_43 (by decide) (fns_cons g11 D11.kp C_54 (by decide) (fns_cons g12 D12.kp C_55 (by decide) (fns_cons g10 D10.kp C_56 (by decide) fns_nil))))))) (fun h m cs n ks e => (mss_cons (h0 := 38) (q := ("entries", [0], 0, [])) (ms_one tt (by decide +kernel) (by decide +kernel) M_38 C_38 (by decide)) mss_nil) h m cs n ks e) (fun h kd cs e => (opss_cons (h0 := 36) (q := (.eq, [0])) (op_eq (fun _ Q X h => eqt_two (Q := Q) (X := X) h) M_36 C_36 (by decide)) opss_nil) h kd cs e) (fun _ => rfl) (fun g x e => subN_ok (l := []) (by decide +kernel) e) (fun g e h => h) (fun c x e => subL_ok (α := Str) (l := [(0, "Table")]) (m := TT.cl) (by decide +kernel) e) (fun _ _ e => by cases e) (fun c i e => by simpa [Gg, Tbl.has] using e)) D33 sc__law_numbers_so c__law_numbers_so rfl (numbers_ok Gg rfl rfl rfl rfl rfl rfl rfl rfl rfl)
  have C_66 : CallOk P w K mg base 22 (He.ga K "_law_numbers_so") 2 [] (spOf (NN K w) (Gg.fn 66)) := call_all F33 b33
  have b7 : Binds K fd7 ["value"] [] := D7.bindsN fun _ _ _ _ _ _ us hl => match us, hl with | [_], _ => rfl
  have F7 : FnOk P w K mg base (L2.CX P w) 1 (He.ga K "is_kind") fd7 ["value"] (spOf (NN K w) (isKT)) := fn_sound (sx_of (cf := cf_is_kind) (G := Gg) (k := 0) tt (by decide +kernel) (.inl rfl) (by decide +kernel) fns_nil (fun _ _ _ _ _ e => by cases e) (fun _ _ _ e => by cases e) (fun _ => rfl) (fun g x e => subN_ok (l := [(1, "KINDS")]) (by decide +kernel) e) (fun g e h => h) (fun c x e => subL_ok (α := Str) (l := []) (m := TT.cl) (by decide +kernel) e) (fun _ _ e => by cases e) (fun c i e => by simpa [Gg, Tbl.has] using e)) D7 sc_is_kind c_is_kind rfl (isKind_ok Gg rfl)
  have kb46 := kbn_none (n := 0) (ks := ["value"]) (ps := ["value"]) (ix := [.inl 0]) D7 fun _ _ _ _ _ _ us ws h1 h2 => match us, ws, h1, h2 with | [], [_], _, _ => rfl
  have C_46 : CallOk P w K mg base 1 (He.ga K "is_kind") 0 ["value"] (spOf (NN K w) (Gg.fn 46)) := callOk_imp (call_arr (ix := [.inl 0]) (ds := []) (dvs := []) F7 kb46 (fun j d e => by cases e) (fun vs l => by
    match vs, l with
    | [_], _ => rfl)) (sp_imp (fun _ _ _ => pT_arr1))
  have C_47 : CallOk P w K mg base 1 (He.ga K "is_kind") 1 [] (spOf (NN K w) (Gg.fn 47)) := call_all F7 b7
  have b9 : Binds K fd9 ["kind"] [] := D9.bindsN fun _ _ _ _ _ _ us hl => match us, hl with | [_], _ => rfl
  have F9 : FnOk P w K mg base (L2.CX P w) 1 (He.ga K "own_count") fd9 ["kind"] (spOf (NN K w) (kcT)) := fn_sound (sx_of (cf := cf_own_count) (G := Gg) (k := 0) tt (by decide +kernel) (.inl rfl) (by decide +kernel) fns_nil (fun _ _ _ _ _ e => by cases e) (fun _ _ _ e => by cases e) (fun _ => rfl) (fun g x e => subN_ok (l := [(3, "_COUNTS")]) (by decide +kernel) e) (fun g e h => h) (fun c x e => subL_ok (α := Str) (l := []) (m := TT.cl) (by decide +kernel) e) (fun _ _ e => by cases e) (fun c i e => by simpa [Gg, Tbl.has] using e)) D9 sc_own_count c_own_count rfl (count_ok Gg rfl)
  have kb49 := kbn_none (n := 0) (ks := ["kind"]) (ps := ["kind"]) (ix := [.inl 0]) D9 fun _ _ _ _ _ _ us ws h1 h2 => match us, ws, h1, h2 with | [], [_], _, _ => rfl
  have C_49 : CallOk P w K mg base 1 (He.ga K "own_count") 0 ["kind"] (spOf (NN K w) (Gg.fn 49)) := callOk_imp (call_arr (ix := [.inl 0]) (ds := []) (dvs := []) F9 kb49 (fun j d e => by cases e) (fun vs l => by
    match vs, l with
    | [_], _ => rfl)) (sp_imp (fun _ _ _ => pT_arr1))
  have C_50 : CallOk P w K mg base 1 (He.ga K "own_count") 1 [] (spOf (NN K w) (Gg.fn 50)) := call_all F9 b9
  have b8 : Binds K fd8 ["kind"] [] := D8.bindsN fun _ _ _ _ _ _ us hl => match us, hl with | [_], _ => rfl
  have F8 : FnOk P w K mg base (L2.CX P w) 1 (He.ga K "is_free_kind") fd8 ["kind"] (spOf (NN K w) (kfT)) := fn_sound (sx_of (cf := cf_is_free_kind) (G := Gg) (k := 0) tt (by decide +kernel) (.inl rfl) (by decide +kernel) fns_nil (fun _ _ _ _ _ e => by cases e) (fun _ _ _ e => by cases e) (fun _ => rfl) (fun g x e => subN_ok (l := [(2, "_FREE_KINDS")]) (by decide +kernel) e) (fun g e h => h) (fun c x e => subL_ok (α := Str) (l := []) (m := TT.cl) (by decide +kernel) e) (fun _ _ e => by cases e) (fun c i e => by simpa [Gg, Tbl.has] using e)) D8 sc_is_free_kind c_is_free_kind rfl (free_ok Gg rfl)
  have kb51 := kbn_none (n := 0) (ks := ["kind"]) (ps := ["kind"]) (ix := [.inl 0]) D8 fun _ _ _ _ _ _ us ws h1 h2 => match us, ws, h1, h2 with | [], [_], _, _ => rfl
  have C_51 : CallOk P w K mg base 1 (He.ga K "is_free_kind") 0 ["kind"] (spOf (NN K w) (Gg.fn 51)) := callOk_imp (call_arr (ix := [.inl 0]) (ds := []) (dvs := []) F8 kb51 (fun j d e => by cases e) (fun vs l => by
    match vs, l with
    | [_], _ => rfl)) (sp_imp (fun _ _ _ => pT_arr1))
  have C_52 : CallOk P w K mg base 1 (He.ga K "is_free_kind") 1 [] (spOf (NN K w) (Gg.fn 52)) := call_all F8 b8
  have b32 : Binds K fd32 ["_law_bag_here"] [] := D32.bindsN fun _ _ _ _ _ _ us hl => match us, hl with | [_], _ => rfl
  have F32 : FnOk P w K mg base (L2.CX P w) 22 (He.ga K "_law_words_so") fd32 ["_law_bag_here"] (spOf (NN K w) (bT Z0 fun _ r => r = .bl true)) := fn_sound (sx_of (cf := cf__law_words_so) (G := Gg) (k := 21) tt (by decide +kernel) (.inl rfl) (by decide +kernel) (fns_cons g14 D14.kp C_5 (by decide) (fns_cons g16 D16.kp C_6 (by decide) (fns_cons g15 D15.kp C_11 (by decide) (fns_cons g27 D27.kp C_44 (by decide) (fns_cons g7 D7.kp C_46 (by decide) (fns_cons g7 D7.kp C_47 (by decide) (fns_cons g9 D9.kp C_49 (by decide) (fns_cons g9 D9.kp C_50 (by decide) (fns_cons g8 D8.kp C_51 (by decide) (fns_cons g8 D8.kp C_52 (by decide) (fns_cons g26 D26.kp C_53 (by decide) fns_nil))))))))))) (fun _ _ _ _ _ e => by cases e) (fun h kd cs e => (opss_cons (h0 := 48) (q := (.stat "Table" "zero" 0 [], [])) (op_stat gC0 M_48 C_48 (by decide)) opss_nil) h kd cs e) (fun _ => rfl) (fun g x e => subN_ok (l := [(1, "KINDS")]) (by decide +kernel) e) (fun g e h => h) (fun c x e => subL_ok (α := Str) (l := []) (m := TT.cl) (by decide +kernel) e) (fun _ _ e => by cases e) (fun c i e => by simpa [Gg, Tbl.has] using e)) D32 sc__law_words_so c__law_words_so rfl (wordsso_ok Gg rfl rfl rfl rfl rfl rfl rfl rfl rfl rfl rfl rfl rfl)
  have C_67 : CallOk P w K mg base 22 (He.ga K "_law_words_so") 1 [] (spOf (NN K w) (Gg.fn 67)) := call_all F32 b32
  have b35 : Binds K fd35 ["_law_script"] [] := D35.bindsN fun _ _ _ _ _ _ us hl => match us, hl with | [_], _ => rfl
  have F35 : FnOk P w K mg base (L2.CX P w) 23 (He.ga K "law") fd35 ["_law_script"] (spOf (NN K w) (lawT)) := fn_sound (sx_of (cf := cf_law) (G := Gg) (k := 22) tt (by decide +kernel) (.inl rfl) (by decide +kernel) (fns_cons g16 D16.kp C_6 (by decide) (fns_cons g15 D15.kp C_11 (by decide) (fns_cons g23 D23.kp C_12 (by decide) (fns_cons g31 D31.kp C_25 (by decide) (fns_cons g22 D22.kp C_32 (by decide) (fns_cons g13 D13.kp C_33 (by decide) (fns_cons g11 D11.kp C_39 (by decide) (fns_cons g28 D28.kp C_43 (by decide) (fns_cons g27 D27.kp C_44 (by decide) (fns_cons g19 D19.kp C_45 (by decide) (fns_cons g26 D26.kp C_53 (by decide) (fns_cons g12 D12.kp C_55 (by decide) (fns_cons g30 D30.kp C_59 (by decide) (fns_cons g34 D34.kp C_64 (by decide) (fns_cons g25 D25.kp C_65 (by decide) (fns_cons g33 D33.kp C_66 (by decide) (fns_cons g32 D32.kp C_67 (by decide) fns_nil))))))))))))))))) (fun h m cs n ks e => (mss_cons (h0 := 61) (q := ("scaled", [0], 1, [])) (ms_one tt (by decide +kernel) (by decide +kernel) M_61 C_61 (by decide)) mss_nil) h m cs n ks e) (fun h kd cs e => (opss_cons (h0 := 48) (q := (.stat "Table" "zero" 0 [], [])) (op_stat gC0 M_48 C_48 (by decide)) (opss_cons (h0 := 60) (q := (.neg, [0])) (op_neg (fun _ Q X h => neg_one (Q := Q) (X := X) h) M_60 C_60 (by decide)) (opss_cons (h0 := 62) (q := (.bin .Sub, [0])) (op_bin (fun _ Q X h => sub_two (Q := Q) (X := X) h) x1 M_62 C_62 (by decide)) (opss_cons (h0 := 63) (q := (.bin .Add, [0])) (op_bin (fun _ Q X h => add_two (Q := Q) (X := X) h) x1 M_63 C_63 (by decide)) opss_nil)))) h kd cs e) (fun _ => rfl) (fun g x e => subN_ok (l := []) (by decide +kernel) e) (fun g e h => h) (fun c x e => subL_ok (α := Str) (l := []) (m := TT.cl) (by decide +kernel) e) (fun _ _ e => by cases e) (fun c i e => by simpa [Gg, Tbl.has] using e)) D35 sc_law c_law rfl (law9_ok Gg rfl rfl rfl rfl rfl rfl rfl rfl rfl rfl rfl rfl rfl rfl rfl rfl rfl rfl rfl rfl rfl rfl)
  exact F35
end k09
end Lw
end Ev
set_option Elab.async false
set_option linter.all false
set_option autoImplicit false
set_option maxRecDepth 100000
set_option maxHeartbeats 0
namespace Ev
namespace Lw
namespace k09
open PySem PySem.Spec PyProof.Rows L2
abbrev hk : PySem.W.Hook := hookE 8 fa fn TT.ts ex
theorem ob_eq (s : PySem.W.SharedT) : ob s = hk.obs s.abs := obsE_eq (HandSHeadRun.getT_eq s)
theorem run (w : World) : HandSHeadRun.RunEqI R qv hk ob 40000 lo w := run0 w
def CXa (P : Program) : CXT := fun outer H s E e s' => ∃ w : World, L2.CX P w outer H s E e s'
theorem fnOk_cx {P : Program} {w : World} {K : PySem.W.Frag} {mg : Str → Option Value} {base : Heap} {k : Nat} {f : Addr} {fd : FuncData} {ps : List Str} {sp : Sp} (F : FnOk P w K mg base (L2.CX P w) k f fd ps sp) : FnOk P w K mg base (CXa P) k f fd ps sp :=
  ⟨F.len, fun A outer s H args us vs Q E hr e0 hb hv hs => codeAny_mono (F.run A outer s H args us vs Q E hr e0 hb hv hs) fun r s' hq => by
    cases r with
    | error e => exact ⟨w, hq⟩
    | ok fl => cases fl <;> exact hq⟩
theorem cxa_no (P : Program) (H : Hp) (s : Shared) (e : Value) (s' : Shared) (h : CXa P [] H s (fun _ _ _ => False) e s') : False := by
  obtain ⟨w, _, _, _, _, _, _, _, _, _, _, _, _, z⟩ := h
  exact z
end k09
end Lw
end Ev
open PySem PySem.W PySem.Calls PyProof.Rows
theorem PySem.Challenge.cw_lostland_k09_kinds_of_tables_holds : PySem.Challenge.rw_lostland_k09_kinds_of_tables.Holds := by
  w_on; o_law
  refine HandSHeadRun.head_imp (r := OpenLaw.row PySem.Challenge.rw_lostland_k09_kinds_of_tables) (q := view (OpenLaw.row PySem.Challenge.rw_lostland_k09_kinds_of_tables).prog [0, 54]) (H := Ev.Lw.k09.hk) (ob := Ev.Lw.k09.ob) (M := 40000) (loose := Ev.Lw.k09.lo) (d := HandSHeadRun.topDef (OpenLaw.row PySem.Challenge.rw_lostland_k09_kinds_of_tables).prog 54) (kwd := []) Ev.Lw.k09.ob_eq
    Ev.Lw.k09.run (by kernel_rfl) (by kernel_rfl) (by kernel_rfl) (by rfl) (by first | assumption | decide +kernel) (by decide +kernel) ⟨rfl, rfl, rfl, rfl, rfl, by decide +kernel⟩ ?hw ?hc
  case hw => w_witness2
  case hc =>
    refine L2.walk_ofE (l := PySem.Challenge.rw_lostland_k09_kinds_of_tables) (n := 63) (k := 23) (x := "_law_script") (CX := Ev.Lw.k09.CXa (PySem.Challenge.rw_lostland_k09_kinds_of_tables).prog) rfl (by decide) (by kernel_rfl) ⟨rfl, by decide, by decide⟩ ?F (fun H s e s' z => Ev.Lw.k09.cxa_no _ H s e s' z)
    intro w mg fa h Y G hmg0
    obtain ⟨K, KX, c⟩ := Y
    have hmg : mg ("law" : PySem.Str) = some (.ref fa) := by
      have e : (HandSHeadRun.topDef (OpenLaw.row PySem.Challenge.rw_lostland_k09_kinds_of_tables).prog 54).name = ("law" : PySem.Str) := by kernel_rfl
      rw [← e]
      exact hmg0
    obtain ⟨fd, hb, hF⟩ := Ev.Lw.k09.facts (P := (PySem.Challenge.rw_lostland_k09_kinds_of_tables).prog) (w := w) KX G hmg c
    exact ⟨K, fd, (Ev.spOf (Ev.Lw.k09.NN K w) Ev.lawT), KX, hb, fun H a ns hl _ hS => Ev.law_sp rfl hl hS, fun base h1 h2 => Ev.Lw.k09.fnOk_cx (hF base h1 h2)⟩
