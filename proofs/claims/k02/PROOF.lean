import PyProof.Rows.All
import Wide.All
import OpenK.AllK
import Wide.FinOn
import HandS.ForExc
import HandS.ForMost
import HandS.Flow
import HandS.Deep
import HandS.TupAny
import HandS.Star
import HandS.IsInst
import HandS.Property
import HandS.StrMore
import HandS.Strs
import HandS.TryMany
import HandS.TryElse
import HandS.CallSlots
import HandS.ExcField
import HandS.ExcIs
import HandS.Wide
import HandS.OwnEq
import HandS.FStr
import HandS.RaiseMore
import HandS.Nested
import HandS.ExcInit
import KE.KExcSuper
import KE.GoesEnum
import HandS.Iter
import HandS.DictComp
import HandS.Style
import HandS.More
import KE.KOpsOwn
import HandS.Defaults
import HandS.HeadEnd
import HandS.HeadHook1
import HandS.Conv
import HandS.Replace
import KE.KStateDown
import HandS.Head0
import HandS.Head1
import HandS.Head2
import HandS.HeadHook2
import HandS.HeadHook3
import HandS.HeadHook4
import PySem.Challenge.RW_keptback_k02_tables_refused
set_option Elab.async false
set_option linter.all false
set_option maxRecDepth 100000
set_option autoImplicit false
set_option maxHeartbeats 0
/-! MP: a small evaluator over tree data. Part D: data, expressions, statements, what they yield. -/
namespace MP
open PySem

/-- data as trees; ref: a cell of the store (a thing that changes) -/
inductive D where
  | non | bl (b : Bool) | int (i : Int) | str (x : Str)
  | tup (xs : List D) | lst (xs : List D) | dic (kvs : List (D × D))
  | prg (h : Str) (ss : List D) (c : Str)
  | ref (n : Nat)
  | scr (ns : List Int)
  deriving Inhabited

/-- what stands in the store -/
inductive Cell where
  | lst (xs : List D)
  | ins (k : Nat) (fs : List (Str × D))
abbrev Sto := List Cell
/-- an exception: its class, its one field -/
structure Exn where
  c : Nat
  a : Option D
inductive R (α : Type) where
  | ok (a : α) (s : Sto)
  | exc (x : Exn) (s : Sto)
  | stuck
def R.bind {α β : Type} (r : R α) (f : α → Sto → R β) : R β := match r with
  | .ok a s => f a s
  | .exc x s => .exc x s
  | .stuck => .stuck
@[simp] theorem R.bind_ok {α β : Type} (a : α) (s : Sto) (f : α → Sto → R β) : (R.ok a s).bind f = f a s := rfl
@[simp] theorem R.bind_exc {α β : Type} (x : Exn) (s : Sto) (f : α → Sto → R β) : (R.exc x s : R α).bind f = .exc x s := rfl
@[simp] theorem R.bind_stuck {α β : Type} (f : α → Sto → R β) : (R.stuck : R α).bind f = .stuck := rfl
def R.nox {α : Type} (r : R α) : R α := match r with
  | .ok a s => .ok a s
  | _ => .stuck
@[simp] theorem R.nox_ok {α : Type} (a : α) (s : Sto) : (R.ok a s).nox = .ok a s := rfl
@[simp] theorem R.nox_exc {α : Type} (x : Exn) (s : Sto) : (R.exc x s : R α).nox = .stuck := rfl
@[simp] theorem R.nox_stuck {α : Type} : (R.stuck : R α).nox = .stuck := rfl
def R.of {α : Type} (o : Option α) (s : Sto) : R α := match o with | some a => .ok a s | none => .stuck
@[simp] theorem R.of_some {α : Type} (a : α) (s : Sto) : R.of (some a) s = .ok a s := rfl
@[simp] theorem R.of_none {α : Type} (s : Sto) : (R.of none s : R α) = .stuck := rfl

/-- the longest that a list or a text may be -/
def BIG : Nat := 16777216
def sOk (x : Str) : Bool := decide (x.length ≤ BIG) && x.cps.all (· < 0x110000)
def mkStr (x : Str) : Option D := if sOk x then some (.str x) else none
def mkLst (xs : List D) : Option D := if xs.length ≤ BIG then some (.lst xs) else none
def mkTup (xs : List D) : Option D := if xs.length ≤ BIG then some (.tup xs) else none

/-! ### equality, order, truth -/
mutual
def D.eqv : D → D → Bool
  | .non, .non => true
  | .bl a, .bl b => a == b
  | .bl a, .int j => (if a then 1 else 0) == j
  | .int i, .bl b => i == (if b then 1 else 0)
  | .int i, .int j => i == j
  | .str x, .str y => x == y
  | .lst xs, .lst ys => D.eqvs xs ys
  | .tup xs, .tup ys => D.eqvs xs ys
  | _, _ => false
def D.eqvs : List D → List D → Bool
  | [], [] => true
  | x :: xs, y :: ys => D.eqv x y && D.eqvs xs ys
  | _, _ => false
end
/-! plain data no deeper than n -/
mutual
def D.plain : Nat → D → Bool
  | _, .non | _, .bl _ | _, .int _ | _, .str _ => true
  | 0, .tup _ | 0, .lst _ => false
  | n + 1, .tup xs | n + 1, .lst xs => D.plains n xs
  | _, .dic _ | _, .prg _ _ _ | _, .ref _ | _, .scr _ => false
def D.plains : Nat → List D → Bool
  | _, [] => true
  | n, x :: xs => D.plain n x && D.plains n xs
end
def D.truth : D → Option Bool
  | .non => some false
  | .bl b => some b
  | .int i => some (i != 0)
  | .str x => some ((x.length : Int) != 0)
  | .tup xs | .lst xs => some (!xs.isEmpty)
  | .dic kvs => some (!kvs.isEmpty)
  | _ => none

def D.flat : D → Bool
  | .non | .bl _ | .int _ | .str _ => true
  | _ => false
inductive CO where
  | eq | ne | lt | le | gt | ge | in_ | nin
  deriving DecidableEq
def dCmp : CO → D → D → Option Bool
  | .eq, a, b => if a.plain 64 && b.plain 64 then some (a.eqv b) else none
  | .ne, a, b => if a.plain 64 && b.plain 64 then some (!a.eqv b) else none
  | .lt, .int i, .int j => some (decide (i < j))
  | .le, .int i, .int j => some (decide (i ≤ j))
  | .gt, .int i, .int j => some (decide (j < i))
  | .ge, .int i, .int j => some (decide (j ≤ i))
  | .lt, .str x, .str y => some (decide (x.cps.toList < y.cps.toList))
  | .le, .str x, .str y => some (!decide (y.cps.toList < x.cps.toList))
  | .gt, .str x, .str y => some (decide (y.cps.toList < x.cps.toList))
  | .ge, .str x, .str y => some (!decide (x.cps.toList < y.cps.toList))
  | .in_, x, .lst ys => if x.plain 63 && D.plains 63 ys then some (ys.any fun y => y.eqv x) else none
  | .nin, x, .lst ys => if x.plain 63 && D.plains 63 ys then some (!(ys.any fun y => y.eqv x)) else none
  | .in_, x, .tup ys => if x.flat && ys.all D.flat then some (ys.any fun y => y.eqv x) else none
  | .nin, x, .tup ys => if x.flat && ys.all D.flat then some (!(ys.any fun y => y.eqv x)) else none
  | .in_, .str x, .str y => some (!(Builtin.Str.occurrences y x 0 y.length 1).isEmpty)
  | .nin, .str x, .str y => some (!(!(Builtin.Str.occurrences y x 0 y.length 1).isEmpty))
  | _, _, _ => none

inductive BO where
  | add | sub | mul | fdiv | mod | pow
  deriving DecidableEq
def small (i : Int) : Bool := decide (-(2 ^ 64) < i) && decide (i < 2 ^ 64)
def dBin : BO → D → D → Option D
  | .add, .int i, .int j => some (.int (i + j))
  | .add, .str x, .str y => mkStr (x ++ y)
  | .add, .lst x, .lst y => mkLst (x ++ y)
  | .add, .tup x, .tup y => mkTup (x ++ y)
  | .sub, .int i, .int j => some (.int (i - j))
  | .mul, .int i, .int j => if small i || small j then some (.int (i * j)) else none
  | .fdiv, .int i, .int j => if decide (0 < j) && decide (j < 1073741824) then some (.int (i / j)) else none
  | .mod, .int i, .int j => if decide (0 < j) then some (.int (i % j)) else none
  | .pow, .int i, .int j => if decide (0 ≤ j) && decide (j ≤ 1000000) && decide (i.natAbs < 2 ^ 64) then some (.int (i ^ j.toNat)) else none
  | _, _, _ => none

/-! ### items, slices -/
def dIdx0 : D → D → Option D
  | .lst xs, .int i | .tup xs, .int i => L2.atI xs i
  | .str x, .int i => (L2.atI x.cps.toList i).bind fun c => mkStr ⟨#[c]⟩
  | _, _ => none
def dGet (kvs : List (D × D)) : D → Option D
  | .str x => (kvs.find? fun kv => kv.1.eqv (.str x)).map (·.2)
  | _ => none
def dIdx (x y : D) : Option D := match x with
  | .dic kvs => dGet kvs y
  | _ => dIdx0 x y
def cut {α : Type} (xs : List α) (lo hi : Option Int) : List α := (xs.drop (HT.sIx xs.length 0 lo)).take (HT.sIx xs.length xs.length hi - HT.sIx xs.length 0 lo)
def dSlice (d : D) (l h : Option Int) : Option D := match d with
  | .lst xs => some (.lst (cut xs l h))
  | .tup xs => some (.tup (cut xs l h))
  | .str x => mkStr (L2.cutS x l h)
  | _ => none
def asInt : D → Option Int
  | .int i => some i
  | _ => none

inductive Ty where
  | int | bool | str | tup | lst | dic
  deriving DecidableEq
def isTy : Ty → D → Bool
  | .int, .int _ | .int, .bl _ | .bool, .bl _ | .str, .str _ | .tup, .tup _ | .lst, .lst _ | .dic, .dic _ => true
  | _, _ => false
def isTys (ts : List Ty) : D → Option D
  | .prg _ _ _ | .ref _ | .scr _ => none
  | d => some (.bl (ts.any fun t => isTy t d))

def dInts : List D → Option (List Int)
  | [] => some []
  | .int i :: r => (dInts r).map (i :: ·)
  | _ :: _ => none
def dBools : List D → Option (List Bool)
  | [] => some []
  | .bl i :: r => (dBools r).map (i :: ·)
  | _ :: _ => none
def dStrs : List D → Option (List Str)
  | [] => some []
  | .str i :: r => (dStrs r).map (i :: ·)
  | _ :: _ => none

inductive Blt where
  | len | int | list | tuple | sum | str | max2 | all | any
  deriving DecidableEq
def dBlt : Blt → List D → Option D
  | .len, [.lst xs] | .len, [.tup xs] => some (.int xs.length)
  | .len, [.dic kvs] => some (.int kvs.length)
  | .len, [.str x] => some (.int x.length)
  | .int, [.int i] => some (.int i)
  | .int, [.bl b] => some (.int (if b then 1 else 0))
  | .int, [.str x] => if x.length ≤ 640 then (PySem.intText? x).map .int else none
  | .list, [.lst xs] | .list, [.tup xs] => some (.lst xs)
  | .list, [.scr ns] => some (.lst (ns.map .int))
  | .tuple, [.lst xs] | .tuple, [.tup xs] => some (.tup xs)
  | .sum, [.lst xs] => (dInts xs).map fun ns => .int ns.sum
  | .str, [.int i] => if i.natAbs.log2 < 1920 then mkStr (toString i) else none
  | .str, [.str x] => some (.str x)
  | .max2, [.int i, .int j] => some (.int (if j > i then j else i))
  | .all, [.lst xs] => (dBools xs).map fun bs => .bl (bs.all id)
  | .any, [.lst xs] => (dBools xs).map fun bs => .bl (bs.any id)
  | _, _ => none

def asStr : D → Option Str
  | .str x => some x
  | _ => none
def dJoin (x : Str) : D → Option D
  | .lst ys => (dStrs ys).bind fun zs => if (zs.map (·.length)).sum + zs.length * x.length ≤ 16777216 then mkStr (Txt.join x zs) else none
  | _ => none

def gets (fs : List (Str × D)) (f : Str) : Option D := fs.lookup f
inductive Fld where
  | marks | rows | shown
  deriving DecidableEq
def dFld : Fld → D → Option D
  | .marks, .prg h _ _ => some (.str h)
  | .rows, .prg _ ss _ => some (.tup ss)
  | .shown, .prg _ _ c => some (.str c)
  | _, _ => none

/-! ### expressions -/
inductive Tg where
  | one (i : Nat)
  | tup (is : List Nat)
mutual
inductive E where
  | lit (d : D) | var (i : Nat) | pk (i : Nat) | glob (x : Str) (d : D)
  | tup (es : List E) | lst (es : List E) | star (a : E)
  | bin (o : BO) (a b : E) | neg (a : E)
  | cmp (o : CO) (a b : E) | isN (neg : Bool) (a : E) | chain (o p : CO) (a b c : E)
  | and (a b : E) | or (a b : E) | not (a : E) | ite (c a b : E)
  | idx (a i : E) | slice (a : E) (lo hi : Option E)
  | fld (f : Fld) (a : E)
  | call (f : Nat) (es : List E)
  | blt (b : Blt) (es : List E)
  | isi (ts : List Ty) (a : E)
  | join (a e : E)
  | comp (own : List Nat) (tg : Tg) (src : Src) (ifs : Option E) (elt : E)
  | dcomp (own : List Nat) (tg : Tg) (src : Src) (key val : E)
  | dic0 | cidx (x : Str) (ys : List Str) (a : E)
  | cell (a : E)
  | cget (a i : E) | clen (a : E) | ccat (a b : E)
  | callT (i k : Nat) (es : List E) | call0 (k : Nat)
  | dm (m : Str) (k : Nat) (a : E) (es : List E) | capp (a e : E)
inductive Src where
  | val (e : E) | rng (es : List E) | enum (a : E) | zip (a b : E)
end

inductive Slot where
  | no
  | imm (d : D)
  | own (d : D)
abbrev Env' := List Slot
abbrev FS := List D → Sto → R D

def immAt (ρ : Env') (i : Nat) : Option D := match ρ[i]? with | some (.imm d) => some d | _ => none
def pkAt (ρ : Env') (i : Nat) : Option D := match ρ[i]? with | some (.imm d) => some d | some (.own d) => some d | _ => none
def setI (ρ : Env') (i : Nat) (d : D) : Env' := ρ.set i (.imm d)
def setAll (ρ : Env') : List Nat → List D → Env'
  | i :: is, d :: ds => setAll (setI ρ i d) is ds
  | _, _ => ρ
def bindTg (ρ : Env') : Tg → D → Option Env'
  | .one i, d => some (setI ρ i d)
  | .tup is, .tup ds => if ds.length = is.length then some (setAll ρ is ds) else none
  | .tup _, _ => none
def wipeE (ρ : Env') : List Nat → Env'
  | [] => ρ
  | i :: is => (wipeE ρ is).set i .no
/-- the items of what is walked -/
def items : D → Option (List D)
  | .lst xs | .tup xs => some xs
  | .scr ns => some (ns.map .int)
  | .str x => some (x.cps.toList.map fun c => .str ⟨#[c]⟩)
  | _ => none
def seqItems : D → Option (List D)
  | .lst xs | .tup xs => some xs
  | _ => none
def lstItems : D → Option (List D)
  | .lst xs => some xs
  | _ => none
def rngItems (lo : Int) (n : Nat) : List D := (List.range n).map fun (k : Nat) => .int (lo + k)
def dRng : List D → Option (List D)
  | [.int j] => if decide (-(2 ^ 62) ≤ j) && decide (j ≤ BIG) then some (rngItems 0 j.toNat) else none
  | [.int i, .int j] => if decide (-(2 ^ 62) ≤ i) && decide (i < 2 ^ 62) && decide (-(2 ^ 62) ≤ j) && decide (j < 2 ^ 62) && decide ((j - i).toNat ≤ BIG) then some (rngItems i (j - i).toNat) else none
  | _ => none
def enumFrom' : Nat → List D → List D
  | _, [] => []
  | k, d :: ds => .tup [.int k, d] :: enumFrom' (k + 1) ds
def zipD : List D → List D → List D
  | a :: as, b :: bs => .tup [a, b] :: zipD as bs
  | _, _ => []
def dNot (d : D) : Option D := d.truth.map fun b => .bl !b

/-- each item: the names bound, the tests, the element -/
def compLoop (f : D → Sto → R (Option D)) : List D → Sto → R (List D)
  | [], s => .ok [] s
  | d :: ds, s => (f d s).nox.bind fun o s => (compLoop f ds s).bind fun es s => .ok (match o with | some e => e :: es | none => es) s
/-- d[k] = v, k a text -/
def putD (kvs : List (D × D)) (k : Str) (v : D) : List (D × D) :=
  if kvs.any (fun kv => kv.1.eqv (.str k)) then kvs.map (fun kv => if kv.1.eqv (.str k) then (kv.1, v) else kv) else kvs ++ [(.str k, v)]
def dcompLoop (f : D → Sto → R (D × D)) (acc : List (D × D)) : List D → Sto → R (List (D × D))
  | [], s => .ok acc s
  | d :: ds, s => (f d s).nox.bind fun o s => match o with
    | (.str k, v) => dcompLoop f (putD acc k v) ds s
    | _ => .stuck
def dCidx (ys : List Str) : D → Option D
  | .str z => if ys.idxOf z < ys.length then some (.int (ys.idxOf z : Nat)) else none
  | _ => none

def isNb (n : Bool) : D → Bool
  | .non => !n
  | _ => n
/-- a new list as a cell -/
def newCell : D → Sto → R D
  | .lst xs, s => .ok (.ref s.length) (s ++ [.lst xs])
  | _, _ => .stuck
/-- lists that are cells -/
def cellAt (s : Sto) : D → Option (List D)
  | .ref n => (match s[n]? with
    | some (.lst xs) => some xs
    | _ => none)
  | _ => none
def cGet (s : Sto) (x : D) : D → Option D
  | .int i => (cellAt s x).bind fun xs => L2.atI xs i
  | _ => none
def cLen (s : Sto) (x : D) : Option D := (cellAt s x).map fun xs => .int xs.length
def cCat (s : Sto) (x : D) : D → Option D
  | .lst ys => (cellAt s x).bind fun xs => mkLst (xs ++ ys)
  | _ => none
def cSet (s : Sto) (x : D) : D → D → Option Sto
  | .int i, d => (match x with
    | .ref n => (cellAt s (.ref n)).bind fun xs => (L2.ixN xs.length i).map fun j => s.set n (.lst (xs.set j d))
    | _ => none)
  | _, _ => none
/-- an instance's fields -/
def insAt (s : Sto) : D → Option (List (Str × D))
  | .ref n => (match s[n]? with
    | some (.ins 0 fs) => some fs
    | _ => none)
  | _ => none
def putG (f : Str) (d : D) : List (Str × D) → List (Str × D)
  | [] => [(f, d)]
  | (g, x) :: r => if g = f then (g, d) :: r else (g, x) :: putG f d r
def cFset (s : Sto) (x : D) (f : Str) (d : D) : Option Sto := match x with
  | .ref n => (insAt s (.ref n)).bind fun fs => if (putG f d fs).length ≤ 100 then some (s.set n (.ins 0 (putG f d fs))) else none
  | _ => none
def cApp (s : Sto) (x d : D) : Option Sto := match x with
  | .ref n => (cellAt s (.ref n)).bind fun xs => if xs.length < BIG then some (s.set n (.lst (xs ++ [d]))) else none
  | _ => none
def ownAt (ρ : Env') (i : Nat) : Option D := match ρ[i]? with | some (.own d) => some d | _ => none
/-- equal flat cells -/
def feq : D → D → Bool
  | .non, .non => true
  | .bl a, .bl b => a == b
  | .int i, .int j => decide (i = j)
  | .str x, .str y => decide (x = y)
  | .ref n, .ref m => decide (n = m)
  | _, _ => false
def feqs : List D → List D → Bool
  | [], [] => true
  | x :: xs, y :: ys => feq x y && feqs xs ys
  | _, _ => false
def stoSame : Sto → Sto → Bool
  | [], [] => true
  | .lst xs :: s, .lst ys :: t => feqs xs ys && stoSame s t
  | _, _ => false
mutual
def evE (fn : Nat → FS) (ρ : Env') (e : E) (s : Sto) : R D := match e with
  | .lit d => .ok d s
  | .glob _ d => .ok d s
  | .var i => R.of (immAt ρ i) s
  | .pk i => R.of (pkAt ρ i) s
  | .tup es => (evEs fn ρ es s).bind fun ds s => R.of (mkTup ds) s
  | .lst es => (evEs fn ρ es s).bind fun ds s => R.of (mkLst ds) s
  | .bin o a b => (evE fn ρ a s).bind fun x s => (evE fn ρ b s).bind fun y s => R.of (dBin o x y) s
  | .star _ => .stuck
  | .neg a => (evE fn ρ a s).bind fun x s => match x with | .int i => .ok (.int (-i)) s | _ => .stuck
  | .cmp o a b => (evE fn ρ a s).bind fun x s => (evE fn ρ b s).bind fun y s => R.of ((dCmp o x y).map .bl) s
  | .isN n a => (evE fn ρ a s).bind fun x s => .ok (.bl (isNb n x)) s
  | .chain o p a b c => (evE fn ρ a s).bind fun x s => (evE fn ρ b s).bind fun y s => (R.of (dCmp o x y) s).bind fun t s =>
      if t then (evE fn ρ c s).bind fun z s => R.of ((dCmp p y z).map .bl) s else .ok (.bl false) s
  | .and a b => (evE fn ρ a s).bind fun x s => (R.of x.truth s).bind fun t s => if t then evE fn ρ b s else .ok x s
  | .or a b => (evE fn ρ a s).bind fun x s => (R.of x.truth s).bind fun t s => if t then .ok x s else evE fn ρ b s
  | .not a => (evE fn ρ a s).bind fun x s => R.of (dNot x) s
  | .ite c a b => (evE fn ρ c s).bind fun x s => (R.of x.truth s).bind fun t s => if t then evE fn ρ a s else evE fn ρ b s
  | .idx a i => (evE fn ρ a s).bind fun x s => (evE fn ρ i s).bind fun y s => R.of (dIdx x y) s
  | .slice a lo hi => (evE fn ρ a s).bind fun x s => (evO fn ρ lo s).bind fun l s => (evO fn ρ hi s).bind fun h s => R.of (dSlice x l h) s
  | .fld f a => (evE fn ρ a s).bind fun x s => R.of (dFld f x) s
  | .call f es => (evEs fn ρ es s).bind fun ds s => fn f ds s
  | .blt b es => (evEs fn ρ es s).bind fun ds s => R.of (dBlt b ds) s
  | .isi ts a => (evE fn ρ a s).bind fun x s => R.of (isTys ts x) s
  | .join a e => (evE fn ρ a s).bind fun x s => (R.of (asStr x) s).bind fun z s => (evE fn ρ e s).bind fun y s => R.of (dJoin z y) s
  | .comp own tg src ifs elt => (evSrc fn ρ src s).bind fun ds s => (compLoop (fun d s => (R.of (bindTg (wipeE ρ own) tg d) s).bind fun ρ' s => (evIf fn ρ' ifs s).bind fun t s =>
      if t then (evE fn ρ' elt s).bind fun e s => .ok (some e) s else .ok none s) ds s).bind fun es s => .ok (.lst es) s
  | .dcomp own tg src key val => (evSrc fn ρ src s).bind fun ds s => (dcompLoop (fun d s => (R.of (bindTg (wipeE ρ own) tg d) s).bind fun ρ' s =>
      (evE fn ρ' key s).bind fun k s => (evE fn ρ' val s).bind fun v s => .ok (k, v) s) [] ds s).bind fun kvs s => .ok (.dic kvs) s
  | .dic0 => .ok (.dic []) s
  | .cidx _ ys a => (evE fn ρ a s).bind fun x s => R.of (dCidx ys x) s
  | .cell a => (evE fn ρ a s).bind newCell
  | .cget a i => (evE fn ρ a s).bind fun x s => (evE fn ρ i s).bind fun y s => R.of (cGet s x y) s
  | .clen a => (evE fn ρ a s).bind fun x s => R.of (cLen s x) s
  | .ccat a b => (evE fn ρ a s).bind fun x s => (evE fn ρ b s).bind fun y s => R.of (cCat s x y) s
  | .callT i k es => match ownAt ρ i with
    | some d => ((evEs fn (setI ρ i d) es s).bind fun ds s1 => fn k ds s1).nox.bind fun r s2 => if r.flat && stoSame s s2 then .ok r s2 else .stuck
    | none => .stuck
  | .call0 k => (match fn k [] s with
    | .ok d s => .ok d s
    | _ => .stuck)
  | .dm m k a es => (evE fn ρ a s).bind fun x s => match insAt s x with
    | some fs => if (fs.lookup m).isNone then (evEs fn ρ es s).bind fun ds s => fn k (x :: ds) s else .stuck
    | none => .stuck
  | .capp a e => (evE fn ρ a s).bind fun x s => match cellAt s x with
    | some _ => (evE fn ρ e s).bind fun d s => match cApp s x d with
      | some s' => .ok .non s'
      | none => .stuck
    | none => .stuck
def evEs (fn : Nat → FS) (ρ : Env') (es : List E) (s : Sto) : R (List D) := match es with
  | [] => .ok [] s
  | .star a :: es => (evE fn ρ a s).bind fun x s => (R.of (seqItems x) s).bind fun xs s => (evEs fn ρ es s).bind fun ds s => .ok (xs ++ ds) s
  | e :: es => (evE fn ρ e s).bind fun d s => (evEs fn ρ es s).bind fun ds s => .ok (d :: ds) s
def evO (fn : Nat → FS) (ρ : Env') (es : Option E) (s : Sto) : R (Option Int) := match es with
  | none => .ok none s
  | some e => (evE fn ρ e s).bind fun d s => (R.of (asInt d) s).bind fun i s => .ok (some i) s
def evIf (fn : Nat → FS) (ρ : Env') (es : Option E) (s : Sto) : R Bool := match es with
  | none => .ok true s
  | some e => (evE fn ρ e s).bind fun d s => R.of d.truth s
def evSrc (fn : Nat → FS) (ρ : Env') (e : Src) (s : Sto) : R (List D) := match e with
  | .val e => (evE fn ρ e s).bind fun x s => R.of (items x) s
  | .rng es => (evEs fn ρ es s).bind fun ds s => R.of (dRng ds) s
  | .enum a => (evE fn ρ a s).bind fun x s => (R.of (seqItems x) s).bind fun ds s => .ok (enumFrom' 0 ds) s
  | .zip a b => (evE fn ρ a s).bind fun x s => (evE fn ρ b s).bind fun y s => (R.of (lstItems x) s).bind fun xs s => (R.of (lstItems y) s).bind fun ys s => .ok (zipD xs ys) s
end

/-! ### statements -/
/-- an except suite: what is told of the error x -/
inductive EA where
  | lit (d : D) | fld
inductive EH where
  | at_ (a : EA) | tup (l : List EA) | lst (l : List EA) | ifr (a : EH)
inductive HSt where
  | asg (i : Nat) (e : EH) | ret (e : EH) | setI (i : Nat) (k : Int) (e : EH)
structure Hdl where
  c : Nat
  nm : Option Nat
  h : HSt
def evEA (x : Exn) : EA → Option D
  | .lit d => some d
  | .fld => x.a
def evEAs (x : Exn) : List EA → Option (List D)
  | [] => some []
  | a :: l => (evEA x a).bind fun d => (evEAs x l).map (d :: ·)
def evEH (x : Exn) : EH → Option D
  | .at_ a => evEA x a
  | .tup l => (evEAs x l).bind mkTup
  | .lst l => (evEAs x l).bind mkLst
  | .ifr a => evEH x a
def subX (h c : Nat) : Bool := h == 0 || h == c
/-- methods of an own list -/
inductive LM where
  | ext | pop | popAt | ins | rev | clr
  deriving DecidableEq
def lmF : LM → List D → List D → Option (D × List D)
  | .ext, xs, [.lst ys] => if xs.length + ys.length ≤ BIG then some (.non, xs ++ ys) else none
  | .pop, xs, [] => (xs[xs.length - 1]?).map fun y => (y, xs.dropLast)
  | .popAt, xs, [.int i] => if decide (-(2 ^ 63) ≤ i) && decide (i < 2 ^ 63) then (seqIndex? i xs.length).bind fun k => (xs[k]?).map fun y => (y, xs.eraseIdx k) else none
  | .ins, xs, [.int i, y] => if decide (xs.length < BIG) && decide (0 ≤ i) && decide (i < 2 ^ 63) then some (.non, xs.take i.toNat ++ [y] ++ xs.drop i.toNat) else none
  | .rev, xs, [] => some (.non, xs.reverse)
  | .clr, _, [] => some (.non, [])
  | _, _, _ => none
inductive St where
  | asg (i : Nat) (e : E)
  | asgO (i : Nat) (e : E)
  | unp (is : List Nat) (e : E)
  | par (is : List (Bool × Nat)) (es : List E)
  | setI (i : Nat) (k e : E)
  | setK (i : Nat) (k e : E)
  | aug (i : Nat) (o : BO) (e : E)
  | app (i : Nat) (e : E)
  | exp (e : E)
  | ret (e : E)
  | retO (i : Nat)
  | retN
  | ite (c : E) (a b : List St)
  | for_ (tg : Tg) (src : Src) (body : List St)
  | pass
  | never
  | frz (i : Nat) (st : St)
  | whl (c : E) (body : List St)
  | cset (a k e : E)
  | rais (k c : Nat) (es : List E)
  | try_ (xs : List Nat) (body : List St) (hs : List Hdl) (orelse : List St)
  | lm (m : LM) (i : Nat) (es : List E)
  | lmTo (m : LM) (j i : Nat) (es : List E)
  | appLm (m : LM) (j i : Nat) (es : List E)
  | tapp (e v : E)
  | swp (i : Nat) (k l a b : E)
  | fset (k : Nat) (f : Str) (a e : E)
  | iadd (i k : Nat) (e : E)
inductive RS where
  | nx (ρ : Env') (s : Sto)
  | ret (d : D) (s : Sto)
  | exc (x : Exn) (ρ : Env') (s : Sto)
  | stuck
def RS.of {α : Type} (r : R α) (ρ : Env') (f : α → Sto → RS) : RS := match r with
  | .ok a s => f a s
  | .exc x s => .exc x ρ s
  | .stuck => .stuck
@[simp] theorem RS.of_ok {α : Type} (a : α) (s : Sto) (ρ : Env') (f : α → Sto → RS) : RS.of (.ok a s) ρ f = f a s := rfl
@[simp] theorem RS.of_exc {α : Type} (x : Exn) (s : Sto) (ρ : Env') (f : α → Sto → RS) : RS.of (.exc x s) ρ f = .exc x ρ s := rfl
@[simp] theorem RS.of_stuck {α : Type} (ρ : Env') (f : α → Sto → RS) : RS.of .stuck ρ f = .stuck := rfl
def RS.seq (r : RS) (f : Env' → Sto → RS) : RS := match r with
  | .nx ρ s => f ρ s
  | r => r
@[simp] theorem RS.seq_nx (ρ : Env') (s : Sto) (f : Env' → Sto → RS) : (RS.nx ρ s).seq f = f ρ s := rfl
@[simp] theorem RS.seq_ret (d : D) (s : Sto) (f : Env' → Sto → RS) : (RS.ret d s).seq f = .ret d s := rfl
@[simp] theorem RS.seq_exc (x : Exn) (ρ : Env') (s : Sto) (f : Env' → Sto → RS) : (RS.exc x ρ s).seq f = .exc x ρ s := rfl
@[simp] theorem RS.seq_stuck (f : Env' → Sto → RS) : RS.stuck.seq f = .stuck := rfl
def isFr : D → Bool
  | .lst _ | .dic _ => true
  | _ => false
def setO (ρ : Env') (i : Nat) (d : D) : Env' := ρ.set i (.own d)
/-- several names at once -/
def setPar (ρ : Env') : List (Bool × Nat) → List D → Option Env'
  | [], [] => some ρ
  | (o, i) :: is, d :: ds => if o && !isFr d then none else setPar (if o then setO ρ i d else setI ρ i d) is ds
  | _, _ => none
def lstOwn (ρ : Env') (i : Nat) : Option (List D) := match ρ[i]? with | some (.own (.lst xs)) => some xs | _ => none
def dicOwn (ρ : Env') (i : Nat) : Option (List (D × D)) := match ρ[i]? with | some (.own (.dic xs)) => some xs | _ => none
def dApp (xs : List D) (d : D) : Option D := if xs.length < BIG then some (.lst (xs ++ [d])) else none
def dSetI (xs : List D) : D → D → Option D
  | .int k, d => (L2.ixN xs.length k).map fun j => .lst (xs.set j d)
  | _, _ => none
def dSetK (kvs : List (D × D)) : D → D → Option D
  | .str k, d => if kvs.length < BIG then some (.dic (putD kvs k d)) else none
  | _, _ => none
def dAug : BO → D → D → Option D
  | .add, .int i, .int j => some (.int (i + j))
  | .mul, .int i, .int j => if small i || small j then some (.int (i * j)) else none
  | _, _, _ => none
def forLoop (f : D → Env' → Sto → RS) : List D → Env' → Sto → RS
  | [], ρ, s => .nx ρ s
  | d :: ds, ρ, s => (f d ρ s).seq (forLoop f ds)
def whlLoop (t : Env' → Sto → R Bool) (f : Env' → Sto → RS) : Nat → Env' → Sto → RS
  | 0, _, _ => .stuck
  | n + 1, ρ, s => RS.of (t ρ s) ρ fun b s => if b then (f ρ s).seq (whlLoop t f n) else .nx ρ s
def evHSt (x : Exn) (h : HSt) (ρ : Env') (s : Sto) : RS := match h with
  | .asg j e => RS.of (R.of (evEH x e) s) ρ fun d s => .nx (setI ρ j d) s
  | .ret e => RS.of (R.of (evEH x e) s) ρ fun d s => if d.flat then .ret d s else .stuck
  | .setI j k e => RS.of (R.of (lstOwn ρ j) s) ρ fun o s => RS.of (R.of (evEH x e) s) ρ fun d s => RS.of (R.of (dSetI o (.int k) d) s) ρ fun o s => .nx (setO ρ j o) s
def evHd (x : Exn) (h : Hdl) (ρ : Env') (s : Sto) : RS := match h.nm with
  | none => evHSt x h.h ρ s
  | some i => (evHSt x h.h (ρ.set i .no) s).seq fun ρ' s' => .nx (ρ'.set i .no) s'
def evHs (xs : List Nat) (x : Exn) : List Hdl → Env' → Sto → RS
  | [], ρ, s => .exc x ρ s
  | h :: t, ρ, s => if xs.contains x.c then (if subX h.c x.c then evHd x h ρ s else evHs xs x t ρ s) else .stuck
mutual
def evS (fn : Nat → FS) (ρ : Env') (st : St) (s : Sto) : RS := match st with
  | .asg i e => RS.of (evE fn ρ e s) ρ fun d s => .nx (setI ρ i d) s
  | .asgO i e => RS.of (evE fn ρ e s) ρ fun d s => if isFr d then .nx (setO ρ i d) s else .stuck
  | .unp is e => RS.of (evE fn ρ e s) ρ fun d s => RS.of (R.of (bindTg ρ (.tup is) d) s) ρ fun ρ' s => .nx ρ' s
  | .par is es => RS.of (evEs fn ρ es s) ρ fun ds s => RS.of (R.of (setPar ρ is ds) s) ρ fun ρ' s => .nx ρ' s
  | .setI i k e => RS.of (R.of (lstOwn ρ i) s) ρ fun o s => RS.of (evE fn ρ e s) ρ fun d s => RS.of (evE fn ρ k s) ρ fun x s => RS.of (R.of (dSetI o x d) s) ρ fun o s => .nx (setO ρ i o) s
  | .setK i k e => RS.of (R.of (dicOwn ρ i) s) ρ fun o s => RS.of (evE fn ρ e s) ρ fun d s => RS.of (evE fn ρ k s) ρ fun x s => RS.of (R.of (dSetK o x d) s) ρ fun o s => .nx (setO ρ i o) s
  | .aug i o e => RS.of (R.of (immAt ρ i) s) ρ fun x s => RS.of (evE fn ρ e s) ρ fun d s => RS.of (R.of (dAug o x d) s) ρ fun r s => .nx (setI ρ i r) s
  | .app i e => RS.of (R.of (lstOwn ρ i) s) ρ fun xs s => RS.of (evE fn ρ e s) ρ fun d s => RS.of (R.of (dApp xs d) s) ρ fun o s => .nx (setO ρ i o) s
  | .exp e => RS.of (evE fn ρ e s) ρ fun _ s => .nx ρ s
  | .ret e => RS.of (evE fn ρ e s) ρ fun d s => .ret d s
  | .retO i => RS.of (R.of (ownAt ρ i) s) ρ fun d s => .ret d s
  | .retN => .ret .non s
  | .ite c a b => RS.of (evE fn ρ c s) ρ fun x s => RS.of (R.of x.truth s) ρ fun t s => if t then evSs fn ρ a s else evSs fn ρ b s
  | .for_ tg src body => RS.of (evSrc fn ρ src s) ρ fun ds s => forLoop (fun d ρ s => RS.of (R.of (bindTg ρ tg d) s) ρ fun ρ' s => evSs fn ρ' body s) ds ρ s
  | .pass => .nx ρ s
  | .never => .stuck
  | .frz i st => match ownAt ρ i with
    | some d => evS fn (setI ρ i d) st s
    | none => evS fn ρ st s
  | .whl c body => whlLoop (fun ρ s => (evE fn ρ c s).bind fun x s => R.of x.truth s) (fun ρ s => evSs fn ρ body s) BIG ρ s
  | .cset a k e => RS.of (evE fn ρ e s) ρ fun d s => RS.of (evE fn ρ a s) ρ fun x s => RS.of (evE fn ρ k s) ρ fun y s => RS.of (R.of (cSet s x y d) s) ρ fun s' _ => .nx ρ s'
  | .rais _ c es => match es with
    | [] => .exc ⟨c, none⟩ ρ s
    | e :: es => RS.of (evEs fn ρ (e :: es) s) ρ fun ds s => match ds with
      | [d] => .exc ⟨c, some d⟩ ρ s
      | _ => .stuck
  | .try_ xs body hs orelse => match evSs fn ρ body s with
    | .nx ρ' s' => evSs fn ρ' orelse s'
    | .exc x ρ' s' => evHs xs x hs ρ' s'
    | .ret d s' => .ret d s'
    | .stuck => .stuck
  | .lm m i es => RS.of (R.of (lstOwn ρ i) s) ρ fun xs s => RS.of (evEs fn ρ es s) ρ fun ds s => RS.of (R.of (lmF m xs ds) s) ρ fun p s => .nx (setO ρ i (.lst p.2)) s
  | .lmTo m j i es => RS.of (R.of (lstOwn ρ i) s) ρ fun xs s => RS.of (evEs fn ρ es s) ρ fun ds s => RS.of (R.of (lmF m xs ds) s) ρ fun p s => .nx (setI (setO ρ i (.lst p.2)) j p.1) s
  | .appLm m j i es => RS.of (R.of (lstOwn ρ j) s) ρ fun ys s => RS.of (R.of (lstOwn ρ i) s) ρ fun xs s => RS.of (evEs fn ρ es s) ρ fun ds s => RS.of (R.of (lmF m xs ds) s) ρ fun p s =>
      if i = j then .stuck else RS.of (R.of (dApp ys p.1) s) ρ fun o s => .nx (setO (setO ρ i (.lst p.2)) j o) s
  | .tapp e v => RS.of (evE fn ρ e s) ρ fun x s => match x with
    | .lst xs => if xs.length < BIG then RS.of (evE fn ρ v s) ρ fun _ s => .nx ρ s else .stuck
    | _ => .stuck
  | .swp i k l a b => RS.of (R.of (lstOwn ρ i) s) ρ fun o s => RS.of (evE fn ρ a s) ρ fun x s => RS.of (evE fn ρ b s) ρ fun y s => RS.of (evE fn ρ k s) ρ fun u s => RS.of (R.of (dSetI o u x) s) ρ fun o' s =>
      RS.of (evE fn ρ l s) ρ fun w s => RS.of (R.of (match o' with | .lst o2 => dSetI o2 w y | _ => none) s) ρ fun o3 s => .nx (setO ρ i o3) s
  | .fset _ f a e => RS.of (evE fn ρ e s) ρ fun d s => RS.of (evE fn ρ a s) ρ fun x s => RS.of (R.of (cFset s x f d) s) ρ fun s' _ => .nx ρ s'
  | .iadd i k e => RS.of (R.of (immAt ρ i) s) ρ fun x s => RS.of (evE fn ρ e s) ρ fun d s => match insAt s x with
    | some _ => RS.of (fn k [x, d] s) ρ fun r s => .nx (setI ρ i r) s
    | none => .stuck
def evSs (fn : Nat → FS) (ρ : Env') (sts : List St) (s : Sto) : RS := match sts with
  | [] => .nx ρ s
  | st :: sts => (evS fn ρ st s).seq fun ρ' s' => evSs fn ρ' sts s'
end
/-- a def's names at its start -/
def startE (n : Nat) (ds : List D) : Env' := ds.map .imm ++ List.replicate (n - ds.length) .no
/-- what a def gives -/
def evDef (fn : Nat → FS) (n : Nat) (body : List St) (ds : List D) (s : Sto) : R D := match evSs fn (startE n ds) body s with
  | .nx _ s => .ok .non s
  | .ret d s => .ok d s
  | .exc x _ s => .exc x s
  | .stuck => .stuck
end MP

/-! X1: an own exception over ValueError whose __init__ says super().__init__(text). -/
namespace MP
open PySem PySem.Spec PyProof.Rows L2 NdefX
section
open PySem.W
variable {prog : Program} {w : World} {A : Around} {E : Value → Shared → Prop} {h : Heap} {g : Array GenState} {d : Drawn} {t : Nat} {os : OsState}
/-- the bound ValueError.__init__ called -/
theorem call_mw {nm q : Str} {C N : Addr} {bs bm : List Value} {hdct : Bool} {sn : List Str} {sub : List Value} {ab : Bool} {col : Option Bool} {dd : Option Addr} {k0 k1 k2 k3 k5 : Option Value} {u e t0 : Addr} {rest : List Value} {Q : Value → Shared → Prop}
    (hC : h.get? C = some (excClassObj nm q C N bs bm hdct sn sub ab col dd k0 k1 k2 k3 k5 "ValueError.__new__")) (he : h.get? e = some (PySem.HandSPX.excO C t0)) (hu : h.get? u = some (kxs_mw "ValueError.__init__" e)) (hrest : rest.length ≤ sizeLine)
    (hq : ∀ h' t1, (∀ b o, b ≠ e → h.get? b = some o → h'.get? b = some o) → h'.get? e = some (PySem.HandSPX.excO C t1) → Q .none ⟨h', g, d, t, os⟩) :
    wpAny (model prog w) A (call (.ref u) rest) Q E ⟨h, g, d, t, os⟩ := by
  refine wpAny_call (codeAny_of_tree ?_)
  show wpAny _ A.in1 (callAny (.ref u) ⟨rest, []⟩) _ _ _
  simp only [callAny]
  refine wpAny_bind (wpAny_load hu ?_)
  simp only [kxs_mw, show (Value.type "method-wrapper" == Value.type "method" || Value.type "method-wrapper" == Value.type "builtin_function_or_method" || Value.type "method-wrapper" == Value.type "method-wrapper") = true by decide, if_true]
  refine KFB.if_so (by decide) ?_
  refine wpAny_bind (check_bound_init F.excBase_ValueError.toExcCallFacts hC he rfl ?_)
  refine wpAny_bind (wpAny_pure (wpAny_pure ?_))
  refine ⟨plainId_quiet F.excBase_ValueError.init.plain _, codeAny_builtin F.excBase_ValueError.initEntry ?_⟩
  exact exc_init_tree (cls := .ref C) (t0 := t0) (dv := none) (c2 := .none) (c3 := .none) (b4 := .bool false) he hrest fun h' k e' t' => hq h' _ k e'
end
abbrev kcl : Str := "__class__"
abbrev kself : Str := "self"
/-- what the frame says of an own exception class at C, its __init__ at fI -/
structure ExcK (P : Program) (K : PySem.W.Frag) (mg : Str → Option Value) (C fI : Addr) (F : NF) (cc : Addr) (ps : List Str) : Prop where
  T : OexC K C
  iC : PySem.W.findIn K (.ref C) "__init__" = some (some (.ref fI))
  tI : PySem.W.typeIn K (.ref fI) = some (.type "function")
  fn : ∃ oc od kV doc pm an ct osl, K.lookup fI = some ⟨oc, od, .func (PySem.W.fnX F.name F.qual F.params F.body F.scope F.cl .none kV doc pm an (.ref F.c) ct), osl⟩
  bnd : ∀ (kV doc pm : Value) (an : Option Addr) (ct : Value) (us : List Value), us.length = ps.length → bindArgs (PySem.W.fnX F.name F.qual F.params F.body F.scope F.cl .none kV doc pm an (.ref F.c) ct) ⟨us, []⟩ = pure (ps.zip us)
  cd : PySem.W.codeIn K (.ref F.c) F.qual = true
  cl : F.cl = [(kcl, cc)]
  code : ∃ ccl cdd vs ccs file tf, K.lookup F.c = some ⟨ccl, cdd, .fields vs, ccs⟩ ∧ vs[2]? = some (.str file tf) ∧ ((P.main.file : Str) == file) = true
  cell : ∃ cl cld csl, K.lookup cc = some ⟨cl, cld, .cell (some (.ref C)), csl⟩
  isC : (PySem.W.clsIn K C).isSome = true
  sub : PySem.W.mroIn K C (.ref C) = some true
  subV : PySem.W.subIn K (.ref C) (.type "ValueError") = some true
  sup : mg "super" = none
  top : (P.main.scope.names.lookup ("super" : Str)).isSome = false
  stat : PySem.W.nsIn K cStatics "thirdparty.any" = some none
  alo : PySem.W.ks_superIn K C C "__init__" = some (some (.builtin "ValueError.__init__"))
  hd : ∃ ar, (F.params.posonlyargs ++ F.params.args).head? = some ar ∧ ar.arg = kself
  sc : NScope (ps ++ [kcl]) ps [kcl] F.scope
  p0 : ps[0]? = some kself
  lks : F.scope.names.lookup ("super" : Str) = some .globalImplicit
  lkc : F.scope.names.lookup ("__class__" : Str) = some .free
  lka : F.scope.names.lookup ("self" : Str) = some .local
section
open PySem.W
variable {CX : CXT} {P : Program} {w : World} {K : PySem.W.Frag} {mg : Str → Option Value} {base : Heap} {C fI cc : Addr} {F : NF} {A : Around} {outer : List Env} {s s0 : Shared} {H H0 : Hp} {E : XK} {pins : List (Addr × Obj)} {σ : L2.St} {ps : List Str}
theorem exo_wr {X : Cx} {a C t1 : Addr} {h' : Heap} (I : Inv X pins σ H s) (e : H a = some (exo a C none)) (k : ∀ b o, b ≠ a → s.heap.get? b = some o → h'.get? b = some o) (hx : h'.get? a = some (PySem.HandSPX.excO C t1)) : Inv X pins σ H { s with heap := h' } := by
  have J := I.write (t' := s.toks) (x := a) (e := a) (o := exo a C none) (by rw [e]; exact True.intro) (.inl rfl) k ⟨_, hx⟩ (exo_ok hx)
  have eu : upd H a (exo a C none) = H := by
    funext b
    by_cases hb : b = a
    · rw [hb, upd_same, e]
    · rw [upd_ne hb]
  rw [eu] at J
  exact J
/-- super().__init__(text) in such an __init__ -/
theorem super_init (X : ExcK P K mg C fI F cc ps) {p0 p1 p2 p3 p4 : Pos} {z : Str} {j : Nat} {a : Addr} {Q : Value → Shared → Prop} (I : Inv (ncx CX P w K mg base (ps ++ [kcl]) F fI A outer s0 H0 E) pins σ H s) (hs : σ[0]? = some (some (.ref a))) (ha : H a = some (exo a C none)) (hl : (p2.endLine == p4.line) = true)
    (hq : ∀ s', Inv (ncx CX P w K mg base (ps ++ [kcl]) F fI A outer s0 H0 E) pins σ H s' → Q .none s') :
    _root_.PySem.wpAt (model P w) (A.deeper (envF F fI s0.heap.objs.size)) (.func F.body (envF F fI s0.heap.objs.size)) (eval (.Call (.Attribute (.Call (.Name "super" p0) [] [] p1) "__init__" p2) [.Constant (.str z) j p3] [] p4) (envF F fI s0.heap.objs.size)) Q
      (ncx CX P w K mg base (ps ++ [kcl]) F fI A outer s0 H0 E).xe s := by
  obtain ⟨oc, od, kV, doc, pm, an, ct, osl, lf⟩ := X.fn
  obtain ⟨ccl, cdd, vs, ccs, file, tf, lc, hvs, hfile⟩ := X.code
  obtain ⟨cl0, cld, csl, lcc⟩ := X.cell
  obtain ⟨cdC, hD⟩ := Option.isSome_iff_exists.mp X.isC
  obtain ⟨ar, har, hself⟩ := X.hd
  obtain ⟨nm, q, N, bs, bm, sn, sub, ab, col, dd, k0, k1, k2, k3, k5, hC, hbm⟩ := X.T.cls
  have kX : K.In s.heap := I.kIn
  have hoc : ∀ c o, K.lookup c = some o → s.heap.get? c = some o := fun c o e => kX _ _ e
  obtain ⟨t1, hx⟩ := exo_at I.hok ha
  have hN0 : (ps ++ [kcl])[0]? = some kself := by
    rw [List.getElem?_append_left (List.getElem?_eq_some_iff.mp X.p0).1]; exact X.p0
  have Ia : InstAt s.heap a (PySem.HandSPX.excO C t1) C none := ⟨hx, rfl, rfl, trivial⟩
  have he : eval (.Call (.Attribute (.Call (.Name "super" p0) [] [] p1) "__init__" p2) [.Constant (.str z) j p3] [] p4) (envF F fI s0.heap.objs.size) = (do
      let ov ← attributeBase (.Call (.Name "super" p0) [] [] p1) "__init__" (envF F fI s0.heap.objs.size) (eval (.Call (.Name "super" p0) [] [] p1) (envF F fI s0.heap.objs.size))
      standAt p2.atName
      let (f, first) ← holding [ov] (getMethod ov "__init__" (do return (← importBound (.Call (.Name "super" p0) [] [] p1) (envF F fI s0.heap.objs.size)).getD true))
      callWith p4 f first (backTo p4 (starEach [.Constant (.str z) j p3] (envF F fI s0.heap.objs.size))) []) := by
    rw [arm_eval_Call]
    have hpos : methodCallPos true (.Call (.Name "super" p0) [] [] p1) (envF F fI s0.heap.objs.size) p2 p4 = pure p4 := by unfold methodCallPos; simp [hl]
    have hform : methodCallForm 1 (backTo p4 (starEach [.Constant (.str z) j p3] (envF F fI s0.heap.objs.size))) [] = true := rfl
    show (do
      let ov ← attributeBase (.Call (.Name "super" p0) [] [] p1) "__init__" (envF F fI s0.heap.objs.size) (eval (.Call (.Name "super" p0) [] [] p1) (envF F fI s0.heap.objs.size))
      standAt p2.atName
      methodCall (.Call (.Name "super" p0) [] [] p1) "__init__" p2 p4 (envF F fI s0.heap.objs.size) ov 1 (backTo p4 (starEach [.Constant (.str z) j p3] (envF F fI s0.heap.objs.size))) []) = _
    unfold methodCall
    rw [hform, hpos]
    unfold calleeOf
    simp only [pure_bind, if_true]
  refine ks_wpAt_MethodCall ?_ he
  refine ks_wpAt_super_base (env := envF F fI s0.heap.objs.size) (body := F.body) (f := fI) (cc := F.c) (ar := ar) X.lks X.lkc (by decide) rfl (hoc _ _ lf) rfl har rfl (hoc _ _ lc) rfl hvs hfile X.top ?_
  obtain ⟨mb, h1, h2⟩ := I.mod.blt
  refine ks_loadName_global X.sc.kind X.lks (Calls.loadGlobal_builtin (env := envF F fI s0.heap.objs.size) (I.mod.glob.keeps I.bk) X.sup (h1.keeps I.bk) ((h2 "super" (by decide)).trans (by decide +kernel)) ⟨rfl, ?_⟩)
  refine wpAny_loadName_free X.sc.kind X.lkc (by show List.lookup kcl F.cl = some cc; rw [X.cl]; rfl) ⟨_, hoc _ _ lcc, rfl⟩ ?_
  obtain ⟨m, hn, hlk⟩ := I.loc
  obtain ⟨u, ru, look⟩ := hlk 0 kself (.ref a) hN0 hs (.inl X.lka)
  have ru : u = Value.ref a := ru
  subst ru
  have hm : m kself = some (.ref a) := by
    rcases look with ⟨_, hm⟩ | ⟨hk, _⟩
    · exact hm
    · have hk : F.scope.names.lookup kself = some .cell ∨ F.scope.names.lookup kself = some .free := hk
      rw [X.lka] at hk
      rcases hk with hk | hk <;> cases hk
  rw [hself]
  refine wpAny_loadName_local X.sc.kind X.lka hn hm ?_
  obtain ⟨oD, hD1, hD2⟩ : ∃ oD, s.heap.get? C = some oD ∧ oD.data = .cls cdC := by
    unfold clsIn at hD
    split at hD
    · rename_i c d cd' sl ho
      cases hD
      exact ⟨_, kX _ _ ho, rfl⟩
    · cases hD
  refine ks_wpAny_isType_cls hD1 hD2 ⟨rfl, ?_⟩
  refine ks_wpAny_call_super hD1 hD2 hx rfl (fun c e => by cases e) (looks_mroIn kX X.sub) fun h1' e1 k1' => ?_
  have ls : a < s.heap.objs.size := Heap.lt_size hx
  have lC : C < s.heap.objs.size := Heap.lt_size hD1
  have I2 : Inv (ncx CX P w K mg base (ps ++ [kcl]) F fI A outer s0 H0 E) pins σ H { s with heap := h1' } := I.kept k1'
  have kX2 : K.In h1' := I2.kIn
  have Ia2 : InstAt h1' a (PySem.HandSPX.excO C t1) C none := ⟨k1' _ _ hx, rfl, rfl, trivial⟩
  have alo := X.alo
  unfold PySem.W.ks_superIn at alo
  rw [hD, Option.bind_some] at alo
  refine kxs_getMethod PySem.W.kxs_ValueError (C := C) (D := C) (x := a) (l₀ := cdC.mro) e1 (looks_opaque kX2 X.stat) (fun A Q E s k q => wpAny_bind ((looks_clsIn kX2 hD) A _ E s k (wpAny_pure q))) rfl kX2 alo (Ia2.type.andThen (looks_subIn kX2 X.subV)) (ks_ne kX2 Ia2 hD) (by decide) ?_
  show wpAny _ _ (callWith p4 (.ref h1'.objs.size) [] [(false, eval (.Constant (.str z) j p3) (envF F fI s0.heap.objs.size))] []) _ _ _
  refine kxs_callWith (i := "ValueError.__init__") (x := a) rfl (Calls.evalArgs_plain (Calls.spliced_cons (Calls.Constant_str (Calls.spliced_nil ⟨Heap.get?_push_size _ rfl, ?_⟩))))
  have k3 : ∀ b o, h1'.get? b = some o → (h1'.push (kxs_mw "ValueError.__init__" a)).get? b = some o := fun b o e => Heap.get?_push_of_some _ e
  have I3 : Inv (ncx CX P w K mg base (ps ++ [kcl]) F fI A outer s0 H0 E) pins σ H { s with heap := h1'.push (kxs_mw "ValueError.__init__" a), toks := s.toks + 1 + 1 } := I2.kept k3
  refine call_mw (I3.kIn _ _ hC) (k3 _ _ Ia2.at_) (Heap.get?_push_size _ rfl) (by rw [sizeLine_eq]; simp) fun h' t2 k e' => ?_
  exact hq _ (exo_wr I3 ha k e')
/-- what such an __init__ promises: without a field, with one -/
def spX0 (C : Addr) : Sp := fun vs H Q _ => ∃ a, vs = [.ref a] ∧ H a = some (exo a C none) ∧ Q .non H
def spX1 (C : Addr) (f : Str) : Sp := fun vs H Q _ => ∃ a v, vs = [.ref a, v] ∧ H a = some (exo a C none) ∧ ∀ dx, H dx = none → dx ≠ a → Q .non (upd (upd H dx (exd dx [(f, v)])) a (exo a C (some dx)))
/-- the def by the walk of its body, its own code told -/
theorem exc_fn {k : Nat} {sp : Sp} (X : ExcK P K mg C fI F cc ps) (len : ∀ vs H Q E, sp vs H Q E → vs.length = ps.length)
    (hbody : ∀ (A : Around) (outer : List Env) (s : Shared) (H : Hp) (vs : List V) (Q : VK) (E : XK) (s1 : Shared), Inv (ncx CX P w K mg base (ps ++ [kcl]) F fI A outer s H E) [] (startF (ps ++ [kcl]) vs [none]) H s1 → sp vs H Q E →
      _root_.PySem.wpAt (model P w) (A.deeper (envF F fI s.heap.objs.size)) (.func F.body (envF F fI s.heap.objs.size)) (execs F.body (envF F fI s.heap.objs.size)) (SP (ncx CX P w K mg base (ps ++ [kcl]) F fI A outer s H E) [] { nx := fun _ H' => Q .non H', rt := Q }) (ncx CX P w K mg base (ps ++ [kcl]) F fI A outer s H E).xe s1) :
    ∃ fd, FnOk P w K mg base CX (k + 1) fI fd ps sp ∧ Binds K fd ps [] := by
  obtain ⟨oc, od, kV, doc, pm, an, ct, osl, lf⟩ := X.fn
  refine ⟨_, ⟨len, fun A outer s H args us vs Q E hr e0 hb r hsp => ?_⟩, Binds.all (X.bnd kV doc pm an ct)⟩
  have hl := len _ _ _ _ hsp
  have KX : K.In s.heap := e0.mod.kin.keeps fun b o e => (e0.bs b o e).1
  have lim : s.heap.NoLimit := e0.mod.nolimit.keeps fun b o e => (e0.bs b o e).1
  obtain ⟨cl0, cld, csl, lcc⟩ := X.cell
  have lkc : ∀ y c, F.cl.lookup y = some c → y = kcl ∧ c = cc := fun y c e => by
    rw [X.cl] at e
    rw [List.lookup_cons] at e
    split at e
    · rename_i h
      exact ⟨eq_of_beq h, (Option.some.inj e).symm⟩
    · cases e
  have CA : CellsAt F.cl [kcl] [none] s.heap H := ⟨rfl, fun y c e => by
      obtain ⟨rfl, rfl⟩ := lkc y c e
      have q := e0.mod.kin _ _ lcc
      exact ⟨(e0.bs _ _ q).2, _, ⟨_, (e0.bs _ _ q).1, rfl⟩⟩, fun x y c e1 e2 => (lkc x c e1).1.trans (lkc y c e2).1.symm, fun i y e => by
      match i, e with
      | 0, e =>
        cases e
        refine ⟨cc, by rw [X.cl]; rfl, fun v h => by cases h⟩
      | i + 1, e => simp at e⟩
  refine ks_codeAny_call_defAt (fd := PySem.W.fnX F.name F.qual F.params F.body F.scope F.cl .none kV doc pm an (.ref F.c) ct) (body := F.body) (binds := ps.zip us) hr.depth (KX _ _ lf) rfl lim (PySem.W.codeRec_of KX X.cd) rfl hb X.sc.nocell
    (fun y hy => ?_) (fun h₁ hns kp => ?_) X.sc.co X.sc.gen X.sc.kind
  · obtain ⟨n, v⟩ := y
    exact X.sc.par n (List.of_mem_zip hy).1
  · have I : Inv (ncx CX P w K mg base (ps ++ [kcl]) F fI A outer s H E) [] (startF (ps ++ [kcl]) vs [none]) H { s with heap := h₁, toks := s.toks + (ps.zip us).length } := inv_startN X.sc hr.hd e0 hl r CA hns kp
    refine ks_wpAt_mono (hbody A outer s H vs Q E _ I hsp) (fun fl s' hs => ?_) fun e s' hs => hs
    have fin : ∀ {σ' : L2.St} {H' : Hp} {v : V} {u : Value}, Inv (ncx CX P w K mg base (ps ++ [kcl]) F fI A outer s H E) [] σ' H' s' → L2.RelV v u → Q v H' → CE outer P w H s Q u s' :=
      fun {σ' H' v u} J rv q => ⟨v, H', J.os, J.bare, J.base, J.hok, rv, q⟩
    cases fl with
    | ret u =>
      obtain ⟨v, σ', H', J, rv, q⟩ := hs
      exact fin J rv q
    | next =>
      obtain ⟨σ', H', J, q⟩ := hs
      exact fin (v := V.non) (u := Value.none) J rfl q
    | brk =>
      obtain ⟨_, _, _, q⟩ := hs
      exact False.elim q
    | cont =>
      obtain ⟨_, _, _, q⟩ := hs
      exact False.elim q
theorem inter (X : ExcK P K mg C fI F cc ps) : interactive (envF F fI s.heap.objs.size) = false := by
  unfold interactive
  rw [show (envF F fI s.heap.objs.size).scope.kind = .function from X.sc.kind]
  rfl
theorem exc_fn0 {k : Nat} {p0 p1 p2 p3 p4 p5 : Pos} {z : Str} {j : Nat} (X : ExcK P K mg C fI F cc [kself]) (hb : F.body = [.Expr (.Call (.Attribute (.Call (.Name "super" p0) [] [] p1) "__init__" p2) [.Constant (.str z) j p3] [] p4) p5]) (hl : (p2.endLine == p4.line) = true) :
    ∃ fd, FnOk P w K mg base CX (k + 1) fI fd [kself] (spX0 C) ∧ Binds K fd [kself] [] := by
  refine exc_fn X (fun vs H Q E ⟨a, e, _⟩ => by rw [e]; rfl) fun A outer s H vs Q E s1 I hsp => ?_
  obtain ⟨a, rfl, ha, q⟩ := hsp
  have st := fun (Q' : Value → Shared → Prop) => super_init (p0 := p0) (p1 := p1) (p2 := p2) (p3 := p3) (p4 := p4) (z := z) (j := j) (Q := Q') X I rfl ha hl
  rw [hb] at st ⊢
  refine ks_wpAt_execs_cons (ks_wpAt_Expr_any (st _ fun s' J => ?_) (hi := inter X))
  exact wpAt_of_wpAny (wpAny_execs_nil ⟨_, _, J, q⟩)
theorem exc_fn1 {k : Nat} {p0 p1 p2 p3 p4 p5 p6 p7 p8 p9 : Pos} {z f y : Str} {j : Nat} (X : ExcK P K mg C fI F cc [kself, y]) (hb : F.body = [.Expr (.Call (.Attribute (.Call (.Name "super" p0) [] [] p1) "__init__" p2) [.Constant (.str z) j p3] [] p4) p5, .Assign [.Attribute (.Name kself p6) f p7] (.Name y p8) p9]) (hl : (p2.endLine == p4.line) = true)
    (hno : findIn K (.ref C) f = some none) (hy : F.scope.names.lookup y = some .local) (hd1 : (y == ("__debug__" : Str)) = false) (hd2 : (y == ("__classdict__" : Str)) = false) :
    ∃ fd, FnOk P w K mg base CX (k + 1) fI fd [kself, y] (spX1 C f) ∧ Binds K fd [kself, y] [] := by
  refine exc_fn X (fun vs H Q E ⟨a, v, e, _⟩ => by rw [e]; rfl) fun A outer s H vs Q E s1 I hsp => ?_
  obtain ⟨a, v, rfl, ha, q⟩ := hsp
  have st := fun (Q' : Value → Shared → Prop) => super_init (p0 := p0) (p1 := p1) (p2 := p2) (p3 := p3) (p4 := p4) (z := z) (j := j) (Q := Q') X I rfl ha hl
  rw [hb] at st ⊢
  refine ks_wpAt_execs_cons (ks_wpAt_Expr_any (st _ fun s' J => ?_) (hi := inter X))
  have e1 : PE (ncx CX P w K mg base ([kself, y] ++ [kcl]) F fI A outer s H E) (.Name kself p6) (tVar 0) := pe_var rfl (.inl X.lka) (by decide) (by decide)
  have e2 : PE (ncx CX P w K mg base ([kself, y] ++ [kcl]) F fI A outer s H E) (.Name y p8) (tVar 1) := pe_var rfl (.inl hy) hd1 hd2
  have e3 := pss_one (ps_ost (f := f) (p' := p7) (pos := p9) e1 e2)
  exact wpAt_of_wpAny (e3.run [] s' _ H { nx := fun _ H' => Q .non H', rt := Q } J ⟨v, rfl, .ref a, rfl, a, C, rfl, X.T, hno, .inl ⟨ha, q⟩⟩)
end
end MP

set_option maxHeartbeats 2000000
/-! X2: try with several clauses, each with a name or without, and an else; such exceptions made. -/
namespace MP
open PySem PySem.Spec PyProof.Rows L2 NdefX
abbrev Cl2 := Value × Option Nat × (Addr → Value → Option Addr → TS)
def clr (i : Nat) (D : Ends) : Ends := { nx := fun σ' H' => D.nx (σ'.set i none) H', rt := D.rt, bk := fun σ' H' => D.bk (σ'.set i none) H', ct := fun σ' H' => D.ct (σ'.set i none) H' }
def wG (K : PySem.W.Frag) (Wout : WX) (D : Ends) : List Cl2 → WX
  | [] => Wout
  | (c, none, ts) :: r => fun cls d σ H => ∃ b, PySem.W.exmOne K cls c = some b ∧ (b = true → ∀ a, H a = none → ts a cls d D σ H) ∧ (b = false → wG K Wout D r cls d σ H)
  | (c, some i, ts) :: r => fun cls d σ H => ∃ b, PySem.W.exmOne K cls c = some b ∧ (b = true → ∀ a, H a = none → ts a cls d (clr i D) (σ.set i (some (.ref a))) H) ∧ (b = false → wG K Wout D r cls d σ H)
inductive HdsG (X : Cx) : List ExceptHandler → List Cl2 → Prop
  | nil : HdsG X [] []
  | cons {x : Str} {c : Value} {ts : Addr → Value → Option Addr → TS} {b₀ : Stmt} {suite : List Stmt} {np pos' : Pos} {hds : List ExceptHandler} {l : List Cl2} (hc : Names X x c)
      (hsu : ∀ (a : Addr) (oe : Obj) (cls : Value) (d : Option Addr) (pn : List (Addr × Obj)), Zc cls d oe → (∃ vs, oe.data = .fields vs) → PSs (X.suite a ((a, oe) :: pn)) (b₀ :: suite) (ts a cls d)) (r : HdsG X hds l) :
      HdsG X (.ExceptHandler (some (.Name x np)) none (b₀ :: suite) pos' :: hds) ((c, none, ts) :: l)
  | consN {x n : Str} {i : Nat} {c : Value} {ts : Addr → Value → Option Addr → TS} {b₀ : Stmt} {suite : List Stmt} {np pos' : Pos} {hds : List ExceptHandler} {l : List Cl2} (hc : Names X x c) (hi : X.N[i]? = some n) (hln : X.env.kindOf n = some .local)
      (hsu : ∀ (a : Addr) (oe : Obj) (cls : Value) (d : Option Addr) (pn : List (Addr × Obj)), Zc cls d oe → (∃ vs, oe.data = .fields vs) → PSs (X.suite a ((a, oe) :: pn)) (b₀ :: suite) (ts a cls d)) (r : HdsG X hds l) :
      HdsG X (.ExceptHandler (some (.Name x np)) (some n) (b₀ :: suite) pos' :: hds) ((c, some i, ts) :: l)
section
variable {X : Cx} {body : List Stmt} {h₀ : ExceptHandler} {hds : List ExceptHandler} {l : List Cl2} {pos : Pos} {tb : WX → TS} {Wout : WX}
theorem ps_try_G {orelse : List Stmt} {u : TS} (ho : PSs X orelse u) (hs : X.stack = X.env :: X.outer) (hf : X.env.frame = some X.env.locals) (hN : X.N.Nodup) (tk : Takes X Wout)
    (hb : ∀ (W : WX) (pn : List (Addr × Obj)) (xe : Value → Shared → Prop), Takes (X.tr pn xe) W → PassesOwn (model X.prog X.w) X.A X.env xe → PSs (X.tr pn xe) body (tb W))
    (hh : HdsG X (h₀ :: hds) l) : PS X (.Try body (h₀ :: hds) orelse [] pos) (fun D σ H => tb (wG X.K Wout D l) { D with nx := u D } σ H) := by
  refine ⟨fun pins s σ H D I h => ?_⟩
  have ok := I.ok
  have hfr : X.A.frames = some (X.env :: X.outer) := by rw [ok.frames, hs]
  refine wpAny_Try_except ?_
  refine wpAny_mono ((hb (wG X.K Wout D l) (X.pn ++ pins) (fun e s₁ => wpAny (model X.prog X.w) X.A (noteFrame e X.env) (fun _ s₂ => wpAny (model X.prog X.w) X.A (setFlight e none) (fun _ s₃ =>
    wpAny (model X.prog X.w) X.A (handleBy e X.env (h₀ :: hds)) (SP X pins D) X.xe s₃) X.xe s₂) X.xe s₁) (fun u s' xx => ?_) PassesOwn.looking).run [] s σ H { D with nx := u D } (I.toTry _) h) (fun f s1 hsp => ?_) (fun e s1 he => he)
  · -- the catch
    obtain ⟨a, B, sI, pins', σ', H', cls, d, rfl, J', nb, up, sky, na, os, ag, w⟩ := xx
    have J : Inv X pins σ' H' sI := J'.ofTry ok
    have sky' : Sky B (X.env :: X.outer) a (Zc cls d) X.env.locals s'.heap := by rw [← hs]; exact sky
    show wpAny (model X.prog X.w) X.A (noteFrame (.ref a) X.env) _ _ _
    refine Sky.land Zc.steady hfr hf sky' fun h3 fl3 up3 => ?_
    have J3 : Inv X pins σ' H' { s' with heap := h3 } := J.landed nb fl3.1 (up.trans up3) os ag
    obtain ⟨oe3, vs3, he3, hz3, hd3⟩ := fl3.there
    have notFr : ∀ {h : Heap} {o : Obj} {vs : Array Value}, h.FunFrames B (X.env :: X.outer) → h.get? a = some o → o.data = .fields vs → a ∉ frs (X.env :: X.outer) := fun {h o vs} ff e dd hm => by
      obtain ⟨_, o', e', hnf⟩ := ff.mem hm
      rw [e] at e'; cases e'
      exact hnf _ dd
    have nfr := notFr fl3.2.2.1 he3 hd3
    have nL : a ≠ X.env.locals := fun z => nfr (List.mem_filterMap.mpr ⟨X.env, List.mem_cons_self, by rw [hf, z]⟩)
    have nF : a ∉ X.fs := fun hm => by
      obtain ⟨e, he, q⟩ := List.mem_filterMap.mp hm
      exact nfr (List.mem_filterMap.mpr ⟨e, List.mem_cons_of_mem _ he, q⟩)
    have S3 := J3.suite he3 hd3 na nL nF
    have go : ∀ {hds' : List ExceptHandler} {l' : List Cl2}, HdsG X hds' l' → wG X.K Wout D l' cls d σ' H' →
        wpAny (model X.prog X.w) X.A (handleBy (.ref a) X.env hds') (SP X pins D) X.xe { s' with heap := h3 } := by
      intro hds' l' hk
      induction hk with
      | nil =>
        intro w
        refine wpAny_handleBy_nil ?_
        obtain ⟨k1, k2, k3, oe, vs, T, oT, ts', he, hz, hd, h1, hr⟩ := id fl3
        unfold PySem.passOn
        refine wpAny_bind (wpAny_field he hd h1 ?_)
        rw [if_neg (show ¬ ((Value.ref T == Value.none) = true) from by simp)]
        have fin : wpAny (model X.prog X.w) X.A (setFlight (.ref a) X.env.frame) (fun _ s4 => wpAny (model X.prog X.w) X.A (throw (.ref a) : Sem Flow) (SP X pins D) X.xe s4) X.xe { s' with heap := h3 } := by
          rw [hf]
          refine HandSPX.setFlight_upZ fl3 fun h4 hh4 up4 => wpAny_throw (tk _ _ ?_)
          exact ⟨a, B, sI, pins, σ', H', cls, d, rfl, J, nb, (up.trans up3).trans up4, .inr (.inr (by rw [hs]; exact hh4)), na, os, ag, w⟩
        first
          | exact wpAny_bind (wpAny_pure (wpAny_bind fin))
          | exact wpAny_bind fin
      | @cons x c ts b₀ suite np pos' hds2 l2 hc hsu r ih =>
        intro w
        obtain ⟨b, hb1, hyes, hno⟩ := w
        refine wpAny_handleBy_cons (codeAny_handlers_test ?_) (by intro q; cases q)
        have LT : PySem.W.Looks (model X.prog X.w) h3 (typeOf (.ref a)) cls := fun A Q E s k q => wpAny_typeOf_ref (k _ _ he3) (by rw [hz3.1]; exact q)
        have LM := PySem.W.exm_one (M := model X.prog X.w) (J3.kIn) LT hb1
        have test : ∀ {Q : Value → Shared → Prop} {E : Value → Shared → Prop}, Q c { s' with heap := h3 } → wpAny (model X.prog X.w) (X.A.mark (some (.ref a))) (eval (.Name x np) X.env) Q E { s' with heap := h3 } := fun {Q E} q => by
          obtain ⟨hg, hdbg, hm | ⟨hm, hv, hnn⟩⟩ := hc
          · exact ld_glob (X := X.suite a ((a, oe3) :: (X.pn ++ pins))) S3 hg hm q hdbg
          · exact ld_blt (X := X.suite a ((a, oe3) :: (X.pn ++ pins))) S3 hg hm hv q hnn hdbg
        refine test (LM.here ?_)
        cases b with
        | true =>
          refine codeAny_handlers_suite ?_
          refine HandSPX.lands_againZ fl3 fun h4 fl4 up4 => ?_
          have J4 : Inv X pins σ' H' { s' with heap := h4 } := J.landed nb fl4.1 ((up.trans up3).trans up4) os ag
          obtain ⟨oe4, vs4, he4, hz4, hd4⟩ := fl4.there
          have S4 := J4.suite he4 hd4 na nL nF
          refine wpAny_mono ((hsu a oe4 cls d (X.pn ++ pins) hz4 ⟨_, hd4⟩).run [] _ _ H' _ S4 (hyes rfl a na)) (fun f s6 hsp => ?_) (fun _ _ z => False.elim z)
          cases f with
          | next =>
            obtain ⟨σ6, H6, S6, q6⟩ := hsp
            exact ⟨_, _, S6.unsuite ok, q6⟩
          | brk =>
            obtain ⟨σ6, H6, S6, q6⟩ := hsp
            exact ⟨_, _, S6.unsuite ok, q6⟩
          | cont =>
            obtain ⟨σ6, H6, S6, q6⟩ := hsp
            exact ⟨_, _, S6.unsuite ok, q6⟩
          | ret u =>
            obtain ⟨v6, σ6, H6, S6, r6, q6⟩ := hsp
            exact ⟨_, _, _, S6.unsuite ok, r6, q6⟩
        | false =>
          show wpAny _ X.A (handleBy (.ref a) X.env hds2) _ _ _
          exact ih (hno rfl)
      | @consN x n i c ts b₀ suite np pos' hds2 l2 hc hi hln hsu r ih =>
        intro w
        have hloc : Loc X.env.scope n := .inl hln
        obtain ⟨b, hb1, hyes, hno⟩ := w
        refine wpAny_handleBy_cons (codeAny_handlers_test ?_) (by intro q; cases q)
        have LT : PySem.W.Looks (model X.prog X.w) h3 (typeOf (.ref a)) cls := fun A Q E s k q => wpAny_typeOf_ref (k _ _ he3) (by rw [hz3.1]; exact q)
        have LM := PySem.W.exm_one (M := model X.prog X.w) (J3.kIn) LT hb1
        have test : ∀ {Q : Value → Shared → Prop} {E : Value → Shared → Prop}, Q c { s' with heap := h3 } → wpAny (model X.prog X.w) (X.A.mark (some (.ref a))) (eval (.Name x np) X.env) Q E { s' with heap := h3 } := fun {Q E} q => by
          obtain ⟨hg, hdbg, hm | ⟨hm, hv, hnn⟩⟩ := hc
          · exact ld_glob (X := X.suite a ((a, oe3) :: (X.pn ++ pins))) S3 hg hm q hdbg
          · exact ld_blt (X := X.suite a ((a, oe3) :: (X.pn ++ pins))) S3 hg hm hv q hnn hdbg
        refine test (LM.here ?_)
        cases b with
        | true =>
          refine codeAny_handlers_suite_as ?_
          refine HandSPX.lands_againZ fl3 fun h4 fl4 up4 => ?_
          have J4 : Inv X pins σ' H' { s' with heap := h4 } := J.landed nb fl4.1 ((up.trans up3).trans up4) os ag
          obtain ⟨oe4, vs4, he4, hz4, hd4⟩ := fl4.there
          have S4 := J4.suite he4 hd4 na nL nF
          refine store_ok (X := X.suite a ((a, oe4) :: (X.pn ++ pins))) (v := .ref a) S4 hN hi hloc rfl (fun s5 S5 => ?_) (.inr hln)
          refine wpAny_mono ((hsu a oe4 cls d (X.pn ++ pins) hz4 ⟨_, hd4⟩).run [] s5 _ H' _ S5 (hyes rfl a na)) (fun f s6 hsp => ?_) (fun _ _ z => False.elim z)
          have end_ : ∀ {σ6 : L2.St} {H6 : Hp} {Q : Shared → Prop}, Inv (X.suite a ((a, oe4) :: (X.pn ++ pins))) [] σ6 H6 s6 → (∀ s7, Inv X pins (σ6.set i none) H6 s7 → Q s7) →
              wpAny (model X.prog X.w) X.A (do bindName X.env n .none; unbindBehindTheSuite X.env n pos') (fun _ s7 => Q s7) X.xe s6 := fun {σ6 H6 Q} S6 hq => gone_ok (S6.unsuite ok) hN hi hln hq
          cases f with
          | next =>
            obtain ⟨σ6, H6, S6, q6⟩ := hsp
            exact end_ S6 fun s7 J7 => ⟨_, _, J7, q6⟩
          | brk =>
            obtain ⟨σ6, H6, S6, q6⟩ := hsp
            exact end_ S6 fun s7 J7 => ⟨_, _, J7, q6⟩
          | cont =>
            obtain ⟨σ6, H6, S6, q6⟩ := hsp
            exact end_ S6 fun s7 J7 => ⟨_, _, J7, q6⟩
          | ret u =>
            obtain ⟨v6, σ6, H6, S6, r6, q6⟩ := hsp
            exact end_ S6 fun s7 J7 => ⟨_, _, _, J7, r6, q6⟩
        | false =>
          show wpAny _ X.A (handleBy (.ref a) X.env hds2) _ _ _
          exact ih (hno rfl)
    exact go hh w
  · cases f with
    | next =>
      obtain ⟨σ', H', J', q⟩ := hsp
      exact ho.run pins s1 σ' H' D (J'.ofTry ok) q
    | brk =>
      obtain ⟨σ', H', J', q⟩ := hsp
      exact ⟨σ', H', J'.ofTry ok, q⟩
    | cont =>
      obtain ⟨σ', H', J', q⟩ := hsp
      exact ⟨σ', H', J'.ofTry ok, q⟩
    | ret u =>
      obtain ⟨v, σ', H', J', r, q⟩ := hsp
      exact ⟨v, σ', H', J'.ofTry ok, r, q⟩
end
/-- C() of a class whose __init__ stores nothing -/
def tMk0 (C : Addr) (sp : Sp) : L2.St → Hp → XK → Prop := fun σ H Q => ∀ a, H a = none → sp [.ref a] (upd H a (exo a C none)) (fun v H2 => v = .non ∧ H2 a = some (exo a C none) ∧ Q (.ref C) none (del H2 a)) (fun _ _ _ => False)
section
variable {X : Cx} {pos p : Pos}
theorem mk_end00 {pins : List (Addr × Obj)} {σ : L2.St} {H1 H2 : Hp} {hp hp2 h2 : Heap} {g1 g2 : Array GenState} {d1 d2 : Drawn} {t1 t2 : Nat} {os1 os2 : OsState} {a C : Addr} (I1 : Inv X pins σ H1 ⟨hp, g1, d1, t1, os1⟩)
    (ha : hp.objs.size ≤ a) (k : ∀ b o, hp.get? b = some o → hp2.get? b = some o) (un : Un (frs X.stack) [] (upd H1 a (exo a C none)) H2 hp2 h2) (hok : HOk X.prog X.w H2 h2) (ho : os2 = os1) (hb : AllBare g2)
    (ea : H2 a = some (exo a C none)) :
    ∃ (t0 : Addr) (G : Heap), Inv X pins σ (del H2 a) ⟨G, g2, d2, t2, os2⟩ ∧ (∀ b o, G.get? b = some o → h2.get? b = some o) ∧ G.get? a = none ∧
      h2.get? a = some ({ cls := .ref C, dict := none, data := .fields #[.ref t0, .none, .none, .none, .bool false, .none] } : Obj) ∧ (del H2 a) a = none := by
  obtain ⟨t0, hoe⟩ := exo_at hok ea
  have hn : H1 a = none := I1.hok.fresh ha
  obtain ⟨G, g1', g2'⟩ := restrict h2 fun b => decide (b ≠ a)
  have gk : ∀ b, b ≠ a → G.get? b = h2.get? b := fun b hb => g1' b (decide_eq_true hb)
  have ge : G.get? a = none := g2' a (by simp)
  have nha : ∀ {b : Addr} {o : Obj}, hp.get? b = some o → b ≠ a := fun {b o} z => Nat.ne_of_lt (Nat.lt_of_lt_of_le (Heap.lt_size z) ha)
  have up : ∀ {b : Addr}, b ≠ a → H1 b = none → upd H1 a (exo a C none) b = none := fun {b} hb n => by rw [upd_ne hb]; exact n
  have U : Un (frs X.stack) [] H1 (del H2 a) hp G := {
    keep := fun b o z n hf hx => by
      rw [gk b (nha z)]
      exact un.keep b o (k b o z) (up (nha z) n) hf hx
    slot := fun b o z n hf hx => by
      rw [gk b (nha z)]
      exact un.slot b o (k b o z) (up (nha z) n) hf hx
    free := fun b o z n hx => by
      rw [del_ne (nha z)]
      exact un.free b o (k b o z) (up (nha z) n) hx
    there := fun b o z hx => by
      rw [gk b (nha z)]
      exact un.there b o (k b o z) hx
    tups := fun b xs z => by
      rw [del_ne (ne_of_none z hn)]
      exact un.tups b xs (by rw [upd_ne (ne_of_none z hn)]; exact z)
    frzs := fun b o v z => by
      rw [del_ne (ne_of_none z hn)]
      exact un.frzs b o v (by rw [upd_ne (ne_of_none z hn)]; exact z)
    tbls := fun b ps z => by
      rw [del_ne (ne_of_none z hn)]
      exact un.tbls b ps (by rw [upd_ne (ne_of_none z hn)]; exact z) }
  have hok3 : HOk X.prog X.w (del H2 a) G := fun b o z => by
    have hba : b ≠ a := fun e => by
      rw [e, del_same] at z
      cases z
    rw [del_ne hba] at z
    have noa : ∀ {c : Addr}, H2 c = some (.own b) → c ≠ a := fun {c} hc => at_ne ea hc exo_own
    exact (hok b o z).stay (fun c v hc y => by
        have hca : c ≠ a := by
          rcases hc with hc | hc
          · rw [hc]
            exact hba
          · exact noa hc
        rw [gk c hca]
        exact y)
      (fun c hc => by rw [del_ne (noa hc)]; exact hc) (fun c xs hc => by rw [del_ne (at_ne ea hc exo_tup)]; exact hc)
  have J : Inv X pins σ (del H2 a) ⟨G, g2, d2, t2, os2⟩ := I1.call' (ch := []) ho U hok3 hb (fun b z => absurd z (by simp))
  refine ⟨t0, G, J, fun b o z => ?_, ge, hoe, del_same⟩
  by_cases hba : b = a
  · rw [hba, ge] at z
    cases z
  · exact (gk b hba).symm.trans z
theorem pmk_oex0 {CX : CXT} {x : Str} {C fI : Addr} {k : Nat} {fd : FuncData} {ps : List Str} {sp : Sp} (T : OexC X.K C) (iC : PySem.W.findIn X.K (.ref C) "__init__" = some (some (.ref fI))) (tI : PySem.W.typeIn X.K (.ref fI) = some (.type "function"))
    (F1 : FnOk X.prog X.w X.K X.mg X.base CX k fI fd ps sp) (hr : Room (k + 1) X.A) (hb : Binds X.K fd ps []) (hx : Passes CX X (fun _ _ _ => False)) (hg : Gl X x) (hm : X.mg x = some (.ref C))
    (hdb : (x == ("__debug__" : Str)) = false) :
    PMk X (.Call (.Name x p) [] [] pos) (tMk0 C sp) := by
  intro pins s σ H Q I1 q1
  obtain ⟨nm, q, N, bs, bm, sn, sub, ab, col, dd, k0, k1, k2, k3, k5, hC, hbm⟩ := T.cls
  refine wpAny_Call_Name_kw (ld_glob I1 hg hm ?_ hdb)
  refine PySem.W.callWith_K0 I1.kIn T.kC ?_
  show wpAny _ _ (call (.ref C) []) _ _ _
  obtain ⟨hp, g, dr, tk, os⟩ := s
  have hsz : hp.objs.size ≤ hp.objs.size + 1 := Nat.le_succ _
  have hn : H (hp.objs.size + 1) = none := I1.hok.fresh hsz
  have hq := q1 (hp.objs.size + 1) hn
  have kk : ∀ b o, hp.get? b = some o → ((hp.push (PySem.W.kdv_tup [])).push (PySem.HandSPX.excO C hp.objs.size)).get? b = some o := fun b o e => Heap.get?_push_of_some _ (Heap.get?_push_of_some _ e)
  have hget : ((hp.push (PySem.W.kdv_tup [])).push (PySem.HandSPX.excO C hp.objs.size)).get? (hp.objs.size + 1) = some (PySem.HandSPX.excO C hp.objs.size) := by heap_get
  have I2 : Inv X pins σ (upd H (hp.objs.size + 1) (exo (hp.objs.size + 1) C none)) ⟨(hp.push (PySem.W.kdv_tup [])).push (PySem.HandSPX.excO C hp.objs.size), g, dr, tk, os⟩ :=
    I1.laid (t' := tk) (a := hp.objs.size + 1) (o := exo (hp.objs.size + 1) C none) (h' := (hp.push (PySem.W.kdv_tup [])).push (PySem.HandSPX.excO C hp.objs.size)) kk hsz (exo_ok hget)
  have r2 : Vals [V.ref (hp.objs.size + 1)] [Value.ref (hp.objs.size + 1)] := .cons rfl .nil
  have hl : ([Value.ref (hp.objs.size + 1)] ++ []).length = ps.length := by
    have e := r2.length
    rw [F1.len _ _ _ _ hq] at e
    exact e.symm
  refine wpAny_call (PySem.HandSPX.call_own F.excBase_ValueError (fun Y => PySem.HandSPX.refsVE_contains Y bm hbm) (I1.kIn _ _ hC) (PySem.W.looks_findIn I1.kIn iC) (fun self => PySem.W.bind_fn I1.kIn self tI) (Nat.zero_le _)
    (codeAny_mono (F1.run _ X.stack _ _ ⟨[Value.ref (hp.objs.size + 1)], []⟩ [Value.ref (hp.objs.size + 1)] _ _ (fun _ _ _ => False) (hr.make C [] []) (I2.env0.make C [] []) (hb _ [Value.ref (hp.objs.size + 1)] I2.kIn hl) r2 hq) fun r s' hq' => ?_))
  cases r with
  | error er => exact hx pins σ _ _ er s' I2 hq'
  | ok fl =>
    cases fl with
    | ret u =>
      obtain ⟨v, H2, os2, bare2, un2, hok2, rv, ev, ea, q2⟩ := hq'
      subst ev
      obtain ⟨h2, g2, d2, t2, os'⟩ := s'
      obtain ⟨t0, G, J, kG, ge, hoe, na⟩ := mk_end00 (d2 := d2) (t2 := t2) I1 hsz kk un2 hok2 os2 bare2 ea
      exact ⟨rv, _, _, _, ⟨G, g2, d2, t2, os'⟩, _, .ref C, none, rfl, J, kG, ge, hoe, ⟨rfl, rfl⟩, rfl, rfl, na, rfl, bare2, raises_own T.exC T.tyC, q2⟩
    | next => exact False.elim hq'
    | brk => exact False.elim hq'
    | cont => exact False.elim hq'
end
end MP

set_option maxHeartbeats 4000000
/-! X3: isinstance of a caught error that has a dict or none. -/
namespace PySem.W
open PySem PySem.Spec PySem.Calls PyProof.Rows
section
variable {prog : Program} {w : World} {A : Around} {E : Value → Shared → Prop} {s : Shared} {K : Frag} {x D : Addr} {ox : Obj} {od : Option Obj}
theorem x3_find {C : Addr} {name : Str} {a g : Value} (hc : (clsIn K C).isSome = true) (ha : findIn K (.ref C) name = some (some a)) (hg : specialIn K a "__get__" = some (some g)) (ht : takesIn K a = some true) : findObj K C od name = some (.bind g a) := by
  obtain ⟨cd, hc⟩ := Option.isSome_iff_exists.mp hc
  unfold findObj
  rw [hc, Option.bind_some, ha, Option.bind_some]
  simp [hg, ht]
theorem x3_class {Q : Option Value → Shared → Prop} (hga : findIn K (.ref D) "__getattribute__" = some (some (.builtin "BaseException.__getattribute__"))) (hgt : findIn K (.ref D) "__getattr__" = some none) (hsub : subIn K (.ref D) (.type "BaseException") = some true)
    (hdct : hasDictIn K D = true) (ha : findIn K (.ref D) "__class__" = some (some (.builtin "object.__class__")))
    (hn : specialIn K (.builtin "object.__class__") "__get__" = some (some (.builtin "getset_descriptor.__get__"))) (htk : takesIn K (.builtin "object.__class__") = some true) (hm : mroIn K D (.type "object") = some true)
    (X : K.In s.heap) (I : InstAt s.heap x ox D od) (h : Q (some (.ref D)) { s with toks := s.toks + 1 }) : wpAny (model prog w) A (getAttr? (.ref x) "__class__") Q E s := by
  have hf : findObj K D od "__class__" = some (.bind (.builtin "getset_descriptor.__get__") (.builtin "object.__class__")) := x3_find (by obtain ⟨cd, hc, _⟩ := any_some hdct; rw [hc]; rfl) ha hn htk
  obtain ⟨hp, g, d, t, os⟩ := s
  have L0 := I.type (M := model prog w)
  have L1 := looks_findIn (M := model prog w) X hga
  have L2 := looks_findIn (M := model prog w) X hgt
  have L3 := looks_find (M := model prog w) X I hf
  have sub : Looks (model prog w) hp (isInstance (.ref x) (.type "BaseException")) true := L0.andThen (looks_subIn X hsub)
  have hx0 : (false && onTheHeap (Value.builtin "BaseException.__getattribute__")) = false := rfl
  have hx2 : (Value.builtin "BaseException.__getattribute__" == Value.builtin "object.__getattribute__") = false := by decide +kernel
  have hx1 : (onTheHeap (Value.ref D) && Value.builtin "BaseException.__getattribute__" == Value.builtin "object.__getattribute__") = false := by rw [hx2]; rfl
  unfold getAttr? getAttrBy? getAttrBy
  refine wpAny_bind (wpAny_mkText (wpAny_bind (wpAny_attempt (wpAny_holding (wpAny_bind (L0.at (wpAny_bind (L1.at ?_))))))))
  show wpAny _ _ (if (onTheHeap (Value.ref D) && Value.builtin "BaseException.__getattribute__" == Value.builtin "object.__getattribute__") = true then _ else _) _ _ _
  rw [hx1, if_neg Bool.false_ne_true]
  unfold getAttrByItsOwn hookBefore
  refine wpAny_bind ?_
  rw [if_pos (show onTheHeap (Value.ref D) = true from rfl)]
  refine L2.at ?_
  refine wpAny_bind (wpAny_attempt (wpAny_holding ?_))
  unfold callGetattribute
  rw [hx0, if_neg Bool.false_ne_true]
  unfold boundAndCalled
  rw [PySem.F.excAttr_ValueError.ga.bind (.ref x)]
  refine wpAny_bind (wpAny_pure ?_)
  show wpAny _ _ (call (.builtin "BaseException.__getattribute__") [.ref x, .str "__class__" t]) _ _ _
  refine wpAny_call (codeAny_call_builtin PySem.F.excAttr_ValueError.ga.plain PySem.F.entry_bexc_ga ?_)
  refine @check_slot (model prog w) _ _ ⟨hp, g, d, t + 1, os⟩ "BaseException.__getattribute__" "BaseException" "__getattribute__" (.ref x) [.str "__class__" t] [] _ (by decide +kernel) (by decide +kernel) sub (PySem.F.args_bexc_ga (.ref x) (.str "__class__" t)) ?_
  unfold Builtin.«object.__getattribute__»
  refine wpAny_bind (wpAny_of_eq (a := ((Value.ref x : Value), [Value.str "__class__" t])) (by first | rfl | (simp only [slotArgs]; rfl)) ?_)
  refine wpAny_bind (wpAny_pure (wpAny_bind (L0.at (wpAny_bind (L3.at ?_)))))
  show wpAny _ _ (holding [Value.builtin "object.__class__"] (call (.builtin "getset_descriptor.__get__") [.builtin "object.__class__", .ref x, .ref D]) >>= ret) _ _ _
  refine wpAny_bind (wpAny_holding (wpAny_call (class_get (s := ⟨hp, g, d, t + 1, os⟩) (ox := ox) (od := od) X I hm ?_)))
  refine wpAny_pure ?_
  show wpAny _ _ (handedOut (.ref D)) _ _ _
  rw [handedOut_of (v := .ref D) rfl]
  first
    | exact wpAny_pure (wpAny_pure h)
    | exact wpAny_pure h
    | exact wpAny_pure (wpAny_bind (wpAny_pure (wpAny_pure h)))
theorem x3_kitx (hga : findIn K (.ref D) "__getattribute__" = some (some (.builtin "BaseException.__getattribute__"))) (hgt : findIn K (.ref D) "__getattr__" = some none) (hsub : subIn K (.ref D) (.type "BaseException") = some true) (hdct : hasDictIn K D = true) (ha : findIn K (.ref D) "__class__" = some (some (.builtin "object.__class__")))
    (hn : specialIn K (.builtin "object.__class__") "__get__" = some (some (.builtin "getset_descriptor.__get__"))) (htk : takesIn K (.builtin "object.__class__") = some true) (hm : mroIn K D (.type "object") = some true) :
    KitX K (.ref x) (.ref D) (fun h => InstAt h x ox D od) where
  ty := fun _ _ _ I => I.type
  it := fun _ _ X _ => by
    obtain ⟨cdD, hcD, _⟩ := any_some hdct
    unfold clsIn at hcD
    split at hcD
    · rename_i c' d' cd' sl' ho
      intro A' Q' E' s' k q
      unfold isType loadHead
      exact wpAny_bind (wpAny_loadPart (k _ _ (X _ _ ho)) (wpAny_pure q))
    · cases hcD
  ne := fun h tp dd its n sl X htp => by
    obtain ⟨cdD, hcD, _⟩ := any_some hdct
    refine Bool.eq_false_iff.mpr fun q => ?_
    have e : D = tp := Value.ref.inj (beq_iff_eq.mp q)
    subst e
    unfold clsIn at hcD
    split at hcD
    · rename_i c' d' cd' sl' ho
      have z := (X _ _ ho).symm.trans htp
      cases z
    · cases hcD
  ca := fun X I k => x3_class hga hgt hsub hdct ha hn htk hm X I k
end
end PySem.W
namespace MP
open PySem PySem.Spec PyProof.Rows L2 NdefX
/-- isinstance(e, c), e the exception that the suite holds -/
def rIsG (K : PySem.W.Frag) (D a : Addr) (d : Option Addr) : List V → Hp → VK → Prop := fun xs H Q => ∃ (c : V) (cv : Value) (b : Bool), xs = [.ref a, c] ∧ (∀ u, RelV c u → u = cv) ∧ (d = none ∨ ∃ dd fs, d = some dd ∧ H dd = some (.xd fs)) ∧ PySem.W.kitOne K (.ref D) cv = some b ∧ Q (.bl b) H
theorem call_isG {X : Cx} {a D : Addr} {d : Option Addr} {oe : Obj} {pn : List (Addr × Obj)} (C : ExcC X.K D) (hz : Zc (.ref D) d oe) (hf : ∃ vs, oe.data = .fields vs) : CallR (X.suite a ((a, oe) :: pn)) (.builtin "isinstance") (rIsG X.K D a d) := by
  intro pins s σ H xs us Q I r h
  obtain ⟨c, cv, b, rfl, hcv, hd, e, q⟩ := h
  cases r with
  | cons rx rr =>
    cases rr with
    | cons rt rr =>
      cases rr
      cases rx
      have ec := hcv _ rt
      subst ec
      obtain ⟨hget, _⟩ := I.pin (a, oe) (List.mem_append.mpr (.inl List.mem_cons_self))
      obtain ⟨vs, hv⟩ := hf
      have J : ∃ od, PySem.W.InstAt s.heap a oe D od := by
        obtain ⟨oc, odd, oda, osl⟩ := oe
        obtain ⟨h1, h2⟩ := hz
        dsimp only at h1 h2 hv
        subst h1 h2 hv
        rcases hd with rfl | ⟨dd, fs, rfl, hdd⟩
        · exact ⟨none, hget, rfl, rfl, trivial⟩
        · have hx : ObjOk X.prog X.w H s.heap dd (.xd fs) := I.hok dd _ hdd
          obtain ⟨mA, hns, hr⟩ := hx
          obtain ⟨ob, ho, hl⟩ := lookIn_ns hns
          exact ⟨some ob, hget, rfl, rfl, ho⟩
      obtain ⟨od, J⟩ := J
      exact PySem.W.kia_one (PySem.W.x3_kitx C.hg C.hk C.hs C.hd C.ha C.hn C.ht C.hm) I.kIn J e (fun z => nomatch z) fun tk => ⟨.bl b, H, I.kept (t' := tk) fun _ _ z => z, rfl, q⟩
end MP

/-! X5: enumerate(v), v a list or a tuple. -/
namespace L2
open PySem PySem.Spec PyProof.Rows
set_option maxHeartbeats 1000000 in
theorem x_enumerate_new1 {v : Value} {o : Obj} {H : Heap → Prop} (B : Begins v o H) :
    Meets (Builtin.«enumerate.__new__» ⟨[.type "enumerate", v], []⟩) (fun _ R s => H s.heap ∧
      R (.ok (.ret (.ref (s.heap.push o).objs.size))) { s with heap := (s.heap.push o).push { cls := .type "enumerate", data := .fields #[.none, .bool false, .ref s.heap.objs.size, rawInt 0, .none, .none] } }) :=
  .of_wp fun prog w A R s h => by
    obtain ⟨hp, g, d, tk, os⟩ := s; obtain ⟨h1, h⟩ := h
    have hsub := sub_enumerate
    have q1 : ∀ {A' : Around} {E : Value → Shared → Prop} {Q : Value → Shared → Prop}, Q (.ref hp.objs.size) ⟨hp.push o, g, d, tk, os⟩ → wpAny (model prog w) A' (pyIter v) Q E ⟨hp, g, d, tk, os⟩ :=
      fun q => B.iter prog w _ _ ⟨hp, g, d, tk, os⟩ _ h1 q
    wp_walk using q1
    refine wpAny_stack_any fun st => wpAny_pure ?_
    split
    · rename_i c _ _ _ _ _
      cases (c == Value.type "enumerate")
      · wp_walk using q1
        exact ⟨_, rfl, h⟩
      · wp_walk using q1
        exact ⟨_, rfl, h⟩
    · wp_walk using q1
      exact ⟨_, rfl, h⟩
section
variable {prog : Program} {w : World} {A : Around} {E : Value → Shared → Prop} {s : Shared}
theorem x_enum_begins1 {v : Value} {o : Obj} {H : Heap → Prop} {Q : Value → Shared → Prop} (B : Begins v o H) (h1 : H s.heap)
    (h : ∀ h', IsEnum h' (s.heap.objs.size + 1) s.heap.objs.size 0 .none → h'.get? s.heap.objs.size = some o → h'.objs.size = s.heap.objs.size + 2 →
      (∀ b o, s.heap.get? b = some o → h'.get? b = some o) → Q (.ref (s.heap.objs.size + 1)) { s with heap := h' }) :
    wpAny (model prog w) A (call (.type "enumerate") [v]) Q E s := by
  refine callType_new F.called_enumerate (by decide) (F.typeCall_enumerate_1 _) (F.newCall_enumerate_1 _) (fun obj => F.args_object_init_2 obj _) F.entry_enumerate_new
    (x_enumerate_new1 B) ⟨h1, ?_⟩
  have hz : (s.heap.push o).objs.size = s.heap.objs.size + 1 := Heap.size_push ..
  show _ ∧ _
  rw [hz]
  have he : IsEnum ((s.heap.push o).push { cls := .type "enumerate", data := .fields #[.none, .bool false, .ref s.heap.objs.size, rawInt 0, .none, .none] }) (s.heap.objs.size + 1) s.heap.objs.size 0 .none := by
    have := Heap.get?_push_size (s.heap.push o) (o := { cls := .type "enumerate", data := .fields #[.none, .bool false, .ref s.heap.objs.size, rawInt 0, .none, .none] }) rfl
    rw [hz] at this; exact this
  refine ⟨⟨_, he, rfl⟩, h _ he (Heap.get?_push_of_some _ (Heap.get?_push_size _ B.free)) (by rw [Heap.size_push, hz]) fun b o x => Heap.get?_push_of_some _ (Heap.get?_push_of_some _ x)⟩
theorem x_enum_endT {e it l : Addr} {i : Nat} {items : Array Value} {old : Value} {Q : Option Value → Shared → Prop} (hh : A.handled = none)
    (he : IsEnum s.heap e it i old) (hit : s.heap.IsTupleIter it l i) (hl : s.heap.IsTuple l items) (hx : items[i]? = none)
    (hQ : ∀ h', Heap.ExtBut it s.heap h' → Q none { s with heap := h' }) : wpAny (model prog w) A (pyNext (.ref e)) Q E s := by
  have hT : s.TypeIs (.ref e) "enumerate" := ⟨_, he, rfl⟩
  unfold pyNext
  refine wpAny_bind (wpAny_attempt (wpAny_callSpecial?_slot (name := Str.ofString "__next__") hT F.slot_enumerate_next
    (wpAny_call_entry F.slot_enumerate_next hT F.entry_enumerate_next ?_ (F.args_enumerate_next_1 _))))
  show wpAny _ _ (field (.ref e) 2 >>= _) _ _ _
  refine wpAny_bind (wpAny_field he rfl (x := .ref it) rfl ?_)
  refine wpAny_bind (wpAny_nextOf_tuple_end hh hit hl hx fun h' x he' hx' => ?_)
  obtain ⟨o, ho, hc⟩ := hx'
  refine wpAny_bind (wpAny_isInstance (T := "StopIteration") (b := true) ⟨o, ho, hc⟩ isSubtype_stop ?_)
  exact wpAny_pure (hQ _ he')
end
/-- the tuple at a, each item in a new pair -/
def IteT (K : PySem.W.Frag) (a : Addr) : It :=
  ⟨fun i H => ∃ (xs : List V) (x : V), SqT K H a xs ∧ xs[i]? = some x, fun i H v H' => ∃ T x, v = .ref T ∧ H T = none ∧ H' = upd H T (.tup [.int (i : Nat), x]) ∧ ∀ xs, SqT K H a xs → xs[i]? = some x, fun i H => ∃ xs : List V, SqT K H a xs ∧ xs.length ≤ i⟩
theorem turn_enumT {P : Program} {w : World} {K : PySem.W.Frag} {elts : List Expr} {kk : Nat} {tpos : Pos} (a e it : Addr) (hai : a ≠ it) (hea : e ≠ a) :
    Turn P w K (.Tuple elts kk tpos) (IteT K a) [e, it] e (fun i h => (∃ old, IsEnum h e it ((i : Nat) : Int) old) ∧ h.IsTupleIter it a i ∧ e ≠ it) where
  mem := by simp
  obj := fun i h st b hb => by
    obtain ⟨⟨old, he⟩, ⟨o, ho, hc, hd⟩, _⟩ := st
    have e' : b = e ∨ b = it := by simpa using hb
    rcases e' with z | z
    · rw [z]; exact ⟨_, he, fun v q => nomatch q⟩
    · rw [z]; exact ⟨o, ho, fun v q => by rw [hd] at q; cases q⟩
  keep := fun i h h' st k => let ⟨⟨old, he⟩, hi, hne⟩ := st; ⟨⟨old, k e (by simp) _ he⟩, hi.at fun o q => k it (by simp) o q, hne⟩
  item := by
    intro X hP hw hK hc i pins s σ H E I hf st hg
    subst hP hw hK
    obtain ⟨⟨old, he⟩, hit, hne⟩ := st
    obtain ⟨xs, x, hq, hx⟩ := hg
    obtain ⟨its, rv, p, hz⟩ := I.tuple hq
    obtain ⟨u, hu, ru⟩ := rv.get hx
    have hel : e < s.heap.objs.size := Heap.lt_size he
    have hil : it < s.heap.objs.size := by obtain ⟨_, q, _⟩ := hit; exact Heap.lt_size q
    have p' : s.heap.IsTuple a its.toArray := p
    have hlt : i < its.toArray.size := by
      have := (List.getElem?_eq_some_iff.mp hu).1
      simpa using this
    refine wpAny_pyNext_enum_itemD (Draws.tuple (A := X.A.in1) (I.ok.hd hc) it a hai its.toArray) he ⟨hit, p'⟩ hlt hne (by simp; exact ⟨hne, hea⟩) fun y h' tk hy ho hst hT hsz hk => ?_
    obtain ⟨hit', _⟩ := hst
    have hyu : y = u := by
      have h1 : its.toArray[i]? = some u := by simpa using hu
      rw [h1] at hy
      exact (Option.some.inj hy).symm
    subst hyu
    refine ⟨_, rfl, wpAny_letOwnedTupleGo_enum (s := { s with heap := h', toks := tk + 1 }) ho fun h'' he' sb => ?_⟩
    have hT2 : h''.get? s.heap.objs.size = some { cls := .type "tuple", data := .seq #[.int i tk, y] } := (sb.2 _ (Nat.ne_of_gt hel)).trans hT
    have new : ObjOk X.prog X.w (upd H s.heap.objs.size (.tup [.int (i : Nat), x])) h'' s.heap.objs.size (.tup [.int (i : Nat), x]) :=
      ⟨by show 2 ≤ sizeLine; decide, [.int i tk, y], .cons ⟨_, rfl⟩ (.cons ru .nil), ⟨_, hT2, rfl, _, rfl⟩⟩
    have I1 : Inv X pins σ (upd H s.heap.objs.size (.tup [.int (i : Nat), x])) { s with heap := h'', toks := tk + 1 } :=
      I.turnedNew (ch := [e, it]) (fun b ob hb q => (sb.2 b (fun z => hb (by simp [z]))).trans (hk b ob (fun z => hb (by simp [z])) (fun z => hb (by simp [z])) q)) hf (Nat.le_refl _) new
    refine ⟨.ref s.heap.objs.size, _, I1, rfl, ⟨_, x, rfl, I.hok.fresh (Nat.le_refl _), rfl, fun ys hy => by rw [I.tuple_inj hy hq]; exact hx⟩, ⟨⟨y, ?_⟩, hit'.at fun o q => (sb.2 it (Ne.symm hne)).trans q, hne⟩, fun b hb => ?_⟩
    · have e1 : ((i + 1 : Nat) : Int) = (i : Int) + 1 := by omega
      rw [e1]; exact he'
    · have hb' : b < s.heap.objs.size := by
        have e' : b = e ∨ b = it := by simpa using hb
        rcases e' with z | z
        · rw [z]; exact hel
        · rw [z]; exact hil
      rw [upd_ne (Nat.ne_of_lt hb')]
      exact (hf b hb).1
  done := by
    intro X hP hw hK hc i pins s σ H E I hf st hg
    subst hP hw hK
    obtain ⟨⟨old, he⟩, hit, hne⟩ := st
    obtain ⟨xs, hq, hx⟩ := hg
    obtain ⟨its, rv, p, hz⟩ := I.tuple hq
    obtain ⟨f0, f1, f2, f3, f4, f5⟩ := hf it (by simp)
    have hl := rv.length
    have p' : s.heap.IsTuple a its.toArray := p
    exact x_enum_endT (I.ok.hd hc) he hit p' (by simp; omega) fun h' eb => ⟨rfl, I.turned (t' := s.toks) (fun b o hb q => eb b o hb q) f0 f1 f3 f4 f5⟩
  self := fun A i s Q E st h => let ⟨⟨_, he⟩, _⟩ := st; wpAny_pyIter_enum he h
/-- enumerate over a list or a tuple -/
def iEnum2 (K : PySem.W.Frag) (ta : TA) : TI := fun σ H R => ta σ H fun vs H1 => ∃ a xs, vs = [.ref a] ∧ ((SqL K H1 a xs ∧ R (Ite K a) H1) ∨ (SqT K H1 a xs ∧ R (IteT K a) H1))
theorem pi_enum2 {X : Cx} {e : Expr} {ta : TA} {p pos tpos : Pos} {elts : List Expr} {kk : Nat} (hg : Gl X "enumerate") (hm : X.mg "enumerate" = none) (ha : PA X [e] ta) (hs : starEach [e] X.env = [(false, eval e X.env)] := by rfl) :
    PI X (.Tuple elts kk tpos) (.Call (.Name "enumerate" p) [e] [] pos) (iEnum2 X.K ta) := by
  refine ⟨fun pins s σ H R I h => ?_⟩
  refine Call_ (ld_blt I hg hm boot_enumerate (PyProof.Rows.callWith_type1 (thn (ha.run pos pins s σ H _ I h) fun us s1 ⟨vs, H1, I1, r1, q1⟩ => ?_) hs rfl))
  obtain ⟨a, xs, ex, q1⟩ := q1
  subst ex
  cases r1 with
  | cons r rr =>
    cases rr
    cases r
    rcases q1 with ⟨hq, q⟩ | ⟨hq, q⟩
    · obtain ⟨its, rv, p', hz⟩ := I1.list hq
      refine call_enumerate_list p'.isList fun h' he hit hsz hk => wpAny_pyIter_enum he ?_
      have I2 : Inv X pins σ H1 { s1 with heap := h' } := I1.kept (t' := s1.toks) hk
      refine ⟨s1.heap.objs.size + 1, [s1.heap.objs.size + 1, s1.heap.objs.size], _, _, H1, rfl, I2, turn_enum a (s1.heap.objs.size + 1) s1.heap.objs.size, ⟨⟨.none, he⟩, hit, Nat.succ_ne_self _⟩, fun b hb => ?_, q⟩
      have e' : b = s1.heap.objs.size + 1 ∨ b = s1.heap.objs.size := by simpa using hb
      have hle : s1.heap.objs.size ≤ b := by
        rcases e' with z | z
        · rw [z]; exact Nat.le_add_right _ _
        · rw [z]; exact Nat.le_refl _
      exact I1.fpOk hle (I1.hok.fresh hle)
    · obtain ⟨its, rv, p', hz⟩ := I1.tuple hq
      have pl : a < s1.heap.objs.size := p'.lt
      refine x_enum_begins1 (begins_tuple a its.toArray) (show s1.heap.IsTuple a its.toArray from p') fun h' he hit hsz hk => wpAny_pyIter_enum he ?_
      have I2 : Inv X pins σ H1 { s1 with heap := h' } := I1.kept (t' := s1.toks) hk
      refine ⟨s1.heap.objs.size + 1, [s1.heap.objs.size + 1, s1.heap.objs.size], _, _, H1, rfl, I2, turn_enumT a (s1.heap.objs.size + 1) s1.heap.objs.size (Nat.ne_of_lt pl) (Nat.ne_of_gt (Nat.lt_succ_of_lt pl)), ⟨⟨.none, he⟩, ⟨_, hit, rfl, rfl⟩, Nat.succ_ne_self _⟩, fun b hb => ?_, q⟩
      have e' : b = s1.heap.objs.size + 1 ∨ b = s1.heap.objs.size := by simpa using hb
      have hle : s1.heap.objs.size ≤ b := by
        rcases e' with z | z
        · rw [z]; exact Nat.le_add_right _ _
        · rw [z]; exact Nat.le_refl _
      exact I1.fpOk hle (I1.hok.fresh hle)
end L2

/-! MP: a small evaluator over tree data, and its bridge to the layer. Part 0: data, what a value stands for, the states. -/
namespace MP
open PySem PySem.Spec PyProof.Rows L2

abbrev Sg := List (Option V)
/-- the program's classes -/
structure Cn where
  K : PySem.W.Frag
  cP : Addr
  cx : Nat → Addr
  cI : Nat → Addr

mutual
inductive Rep (C : Cn) (F : Hp) (L : List Addr) : V → D → Prop
  | non : Rep C F L .non .non
  | bl (b : Bool) : Rep C F L (.bl b) (.bl b)
  | int (i : Int) : Rep C F L (.int i) (.int i)
  | str (x : Str) : sOk x = true → Rep C F L (.str x) (.str x)
  | tup {a : Addr} {vs : List V} {ds : List D} : SqT C.K F a vs → vs.length ≤ sizeLine → RepAll C F L vs ds → Rep C F L (.ref a) (.tup ds)
  | lst {a : Addr} {vs : List V} {ds : List D} : F a = some (.lst vs) → vs.length ≤ sizeLine → RepAll C F L vs ds → Rep C F L (.ref a) (.lst ds)
  | dic {a : Addr} {kvs : List (Key × V)} {ds : List (D × D)} : F a = some (.dK kvs) → kvs.length ≤ sizeLine → RepKV C F L kvs ds → Rep C F L (.ref a) (.dic ds)
  | prg {a dx t : Addr} {h c : Str} {vs : List V} {ss : List D} : F a = some (.ins C.cP dx [("marks", .str h), ("rows", .ref t), ("shown", .str c)]) → SqT C.K F t vs → vs.length ≤ sizeLine → RepAll C F L vs ss →
      sOk h = true → sOk c = true → Rep C F L (.ref a) (.prg h ss c)
  | ref {n : Nat} {a : Addr} : L[n]? = some a → Rep C F L (.ref a) (.ref n)
  | scr {a : Addr} {ns : List Int} : SqL C.K F a (ns.map V.int) → ns.length ≤ sizeLine → Rep C F L (.ref a) (.scr ns)
inductive RepAll (C : Cn) (F : Hp) (L : List Addr) : List V → List D → Prop
  | nil : RepAll C F L [] []
  | cons {v : V} {vs : List V} {d : D} {ds : List D} : Rep C F L v d → RepAll C F L vs ds → RepAll C F L (v :: vs) (d :: ds)
inductive RepKV (C : Cn) (F : Hp) (L : List Addr) : List (Key × V) → List (D × D) → Prop
  | nil : RepKV C F L [] []
  | cons {x : Str} {v : V} {kvs : List (Key × V)} {d : D} {ds : List (D × D)} : sOk x = true → Rep C F L v d → RepKV C F L kvs ds → RepKV C F L ((.inr x, v) :: kvs) ((.str x, d) :: ds)
end

/-- the frozen part grows, the cells' places grow at the end -/
def Sub (F F' : Hp) : Prop := ∀ a o, F a = some o → F' a = some o
theorem Sub.refl (F : Hp) : Sub F F := fun _ _ h => h
theorem Sub.trans {F G H : Hp} (a : Sub F G) (b : Sub G H) : Sub F H := fun c o h => b c o (a c o h)
theorem Sub.rd {F F' : Hp} (s : Sub F F') {a : Addr} {u : HO} (h : Rd F a u) : Rd F' a u := by
  rcases h with h | ⟨o, h⟩
  · exact .inl (s _ _ h)
  · exact .inr ⟨o, s _ _ h⟩
theorem Sub.sqL {K : PySem.W.Frag} {F F' : Hp} (s : Sub F F') {a : Addr} {xs : List V} (h : SqL K F a xs) : SqL K F' a xs := h.imp s.rd id
theorem Sub.sqT {K : PySem.W.Frag} {F F' : Hp} (s : Sub F F') {a : Addr} {xs : List V} (h : SqT K F a xs) : SqT K F' a xs := h.imp s.rd id

section
variable {C : Cn} {F F' : Hp} {L L' : List Addr}
theorem pre_get {L L' : List Addr} (p : L <+: L') {n : Nat} {a : Addr} (h : L[n]? = some a) : L'[n]? = some a := by
  obtain ⟨m, rfl⟩ := p
  rw [List.getElem?_append_left (List.getElem?_eq_some_iff.mp h).1]; exact h
mutual
theorem Rep.up (s : Sub F F') (p : L <+: L') : ∀ {v : V} {d : D}, Rep C F L v d → Rep C F' L' v d
  | _, _, .non => .non
  | _, _, .bl b => .bl b
  | _, _, .int i => .int i
  | _, _, .str x h => .str x h
  | _, _, .tup h z r => .tup (s.sqT h) z (RepAll.up s p r)
  | _, _, .lst h z r => .lst (s _ _ h) z (RepAll.up s p r)
  | _, _, .dic h z r => .dic (s _ _ h) z (RepKV.up s p r)
  | _, _, .prg h t z r a b => .prg (s _ _ h) (s.sqT t) z (RepAll.up s p r) a b
  | _, _, .ref h => .ref (pre_get p h)
  | _, _, .scr h z => .scr (s.sqL h) z
theorem RepAll.up (s : Sub F F') (p : L <+: L') : ∀ {vs : List V} {ds : List D}, RepAll C F L vs ds → RepAll C F' L' vs ds
  | _, _, .nil => .nil
  | _, _, .cons h t => .cons (Rep.up s p h) (RepAll.up s p t)
theorem RepKV.up (s : Sub F F') (p : L <+: L') : ∀ {vs : List (Key × V)} {ds : List (D × D)}, RepKV C F L vs ds → RepKV C F' L' vs ds
  | _, _, .nil => .nil
  | _, _, .cons z h t => .cons z (Rep.up s p h) (RepKV.up s p t)
end
theorem RepAll.length : ∀ {vs : List V} {ds : List D}, RepAll C F L vs ds → vs.length = ds.length
  | _, _, .nil => rfl
  | _, _, .cons _ t => by simp [RepAll.length t]
theorem RepAll.get : ∀ {vs : List V} {ds : List D} {i : Nat} {d : D}, RepAll C F L vs ds → ds[i]? = some d → ∃ v, vs[i]? = some v ∧ Rep C F L v d
  | _, _, _, _, .nil, e => by simp at e
  | _, _, 0, _, .cons r _, e => by simp at e; subst e; exact ⟨_, rfl, r⟩
  | _, _, i + 1, d, .cons _ t, e => by
    obtain ⟨v, h1, h2⟩ := RepAll.get (i := i) (d := d) t (by simpa using e)
    exact ⟨v, by simpa using h1, h2⟩
theorem RepAll.get' : ∀ {vs : List V} {ds : List D} {i : Nat} {v : V}, RepAll C F L vs ds → vs[i]? = some v → ∃ d, ds[i]? = some d ∧ Rep C F L v d
  | _, _, _, _, .nil, e => by simp at e
  | _, _, 0, _, .cons r _, e => by simp at e; subst e; exact ⟨_, rfl, r⟩
  | _, _, i + 1, d, .cons _ t, e => by
    obtain ⟨v, h1, h2⟩ := RepAll.get' (i := i) (v := d) t (by simpa using e)
    exact ⟨v, by simpa using h1, h2⟩
theorem RepAll.append : ∀ {vs ws : List V} {ds es : List D}, RepAll C F L vs ds → RepAll C F L ws es → RepAll C F L (vs ++ ws) (ds ++ es)
  | _, _, _, _, .nil, s => s
  | _, _, _, _, .cons r t, s => .cons r (RepAll.append t s)
theorem RepAll.take : ∀ {vs : List V} {ds : List D} (n : Nat), RepAll C F L vs ds → RepAll C F L (vs.take n) (ds.take n)
  | _, _, 0, _ => .nil
  | _, _, _ + 1, .nil => .nil
  | _, _, n + 1, .cons r t => .cons r (RepAll.take n t)
theorem RepAll.drop : ∀ {vs : List V} {ds : List D} (n : Nat), RepAll C F L vs ds → RepAll C F L (vs.drop n) (ds.drop n)
  | _, _, 0, r => r
  | _, _, _ + 1, .nil => .nil
  | _, _, n + 1, .cons _ t => RepAll.drop n t
theorem RepAll.set {v : V} {d : D} (r : Rep C F L v d) : ∀ {vs : List V} {ds : List D} (i : Nat), RepAll C F L vs ds → RepAll C F L (vs.set i v) (ds.set i d)
  | _, _, _, .nil => .nil
  | _, _, 0, .cons _ t => .cons r t
  | _, _, i + 1, .cons q t => .cons q (RepAll.set r i t)
theorem RepAll.reverse : ∀ {vs : List V} {ds : List D}, RepAll C F L vs ds → RepAll C F L vs.reverse ds.reverse
  | _, _, .nil => .nil
  | _, _, .cons r t => by
    rw [List.reverse_cons, List.reverse_cons]
    exact (RepAll.reverse t).append (.cons r .nil)
theorem RepAll.eraseIdx : ∀ {vs : List V} {ds : List D} (i : Nat), RepAll C F L vs ds → RepAll C F L (vs.eraseIdx i) (ds.eraseIdx i)
  | _, _, _, .nil => by simpa using RepAll.nil
  | _, _, 0, .cons _ t => by simpa using t
  | _, _, i + 1, .cons q t => by simpa using RepAll.cons q (RepAll.eraseIdx i t)
theorem RepAll.insertIdx {v : V} {d : D} (r : Rep C F L v d) : ∀ {vs : List V} {ds : List D} (i : Nat), RepAll C F L vs ds → RepAll C F L (vs.insertIdx i v) (ds.insertIdx i d)
  | _, _, 0, t => by simpa using RepAll.cons r t
  | _, _, i + 1, .nil => by simpa using RepAll.nil
  | _, _, i + 1, .cons q t => by simpa using RepAll.cons q (RepAll.insertIdx r i t)
theorem RepAll.dropLast {vs : List V} {ds : List D} (r : RepAll C F L vs ds) : RepAll C F L vs.dropLast ds.dropLast := by
  rw [List.dropLast_eq_take, List.dropLast_eq_take, r.length]; exact r.take _
theorem RepAll.snoc {vs : List V} {ds : List D} {v : V} {d : D} (t : RepAll C F L vs ds) (r : Rep C F L v d) : RepAll C F L (vs ++ [v]) (ds ++ [d]) := t.append (.cons r .nil)
theorem RepKV.length : ∀ {vs : List (Key × V)} {ds : List (D × D)}, RepKV C F L vs ds → vs.length = ds.length
  | _, _, .nil => rfl
  | _, _, .cons _ _ t => by simp [RepKV.length t]
end

/-- a cell as it stands at a -/
inductive CellOk (C : Cn) (F : Hp) (L : List Addr) (H : Hp) (a : Addr) : Cell → Prop
  | lst {vs : List V} {ds : List D} : H a = some (.lst vs) → vs.length ≤ sizeLine → RepAll C F L vs ds → CellOk C F L H a (.lst ds)
  | ins {k : Nat} {dx : Addr} {fs : List (Str × V)} {gs : List (Str × D)} : H a = some (.ins (C.cI k) dx fs) → Paired (fun (p : Str × V) (q : Str × D) => p.1 = q.1 ∧ Rep C F L p.2 q.2) fs gs → fs.length ≤ 100 → CellOk C F L H a (.ins k gs)

/-- the state: what is frozen, where the cells stand -/
structure Ok (C : Cn) (F : Hp) (L : List Addr) (H : Hp) (S : Sto) : Prop where
  sub : Sub F H
  fl : ∀ a ∈ L, F a = none
  nd : L.Nodup
  len : L.length = S.length
  cells : ∀ (n : Nat) (c : Cell), S[n]? = some c → ∃ a, L[n]? = some a ∧ CellOk C F L H a c

/-- from one state to a later one -/
structure Ext (F : Hp) (L : List Addr) (H : Hp) (F' : Hp) (L' : List Addr) (H' : Hp) : Prop where
  ff : Sub F F'
  ll : L <+: L'
  keep : ∀ a o, H a = some o → a ∉ L → H' a = some o
  there : ∀ a, a ∈ L → H a ≠ none → H' a ≠ none
  nF : ∀ a o, F' a = some o → F a = some o ∨ H a = none
  nL : ∀ a, a ∈ L' → a ∈ L ∨ H a = none
theorem Ext.refl (F : Hp) (L : List Addr) (H : Hp) : Ext F L H F L H := ⟨Sub.refl F, List.prefix_refl L, fun _ _ h _ => h, fun _ _ h => h, fun _ _ h => .inl h, fun _ h => .inl h⟩
section
variable {F F1 F2 : Hp} {L L1 L2 : List Addr} {H H1 H2 : Hp}
theorem Ext.none_of (e : Ext F L H F1 L1 H1) {a : Addr} (h : H1 a = none) : H a = none := by
  by_cases ha : a ∈ L
  · cases q : H a with
    | none => rfl
    | some o => exact absurd h (e.there a ha (by rw [q]; simp))
  · cases q : H a with
    | none => rfl
    | some o => rw [e.keep a o q ha] at h; cases h
theorem Ext.trans (a : Ext F L H F1 L1 H1) (b : Ext F1 L1 H1 F2 L2 H2) : Ext F L H F2 L2 H2 where
  ff := a.ff.trans b.ff
  ll := a.ll.trans b.ll
  keep := fun x o h n => b.keep x o (a.keep x o h n) fun z => by
    rcases a.nL x z with z | z
    · exact n z
    · rw [h] at z; cases z
  there := fun x hx h => b.there x (a.ll.subset hx) (a.there x hx h)
  nF := fun x o h => by
    rcases b.nF x o h with z | z
    · exact a.nF x o z
    · exact .inr (a.none_of z)
  nL := fun x h => by
    rcases b.nL x h with z | z
    · exact a.nL x z
    · exact .inr (a.none_of z)
end

/-- a new object that stands in the heap and is known to nobody else -/
inductive Fr (C : Cn) (F : Hp) (L : List Addr) (H0 H : Hp) : V → D → Prop
  | lst {p : Addr} {vs : List V} {ds : List D} : H0 p = none → H p = some (.lst vs) → vs.length ≤ sizeLine → F p = none → p ∉ L → RepAll C F L vs ds → Fr C F L H0 H (.ref p) (.lst ds)
  | dic {p : Addr} {kvs : List (Key × V)} {ds : List (D × D)} : H0 p = none → H p = some (.dK kvs) → kvs.length ≤ sizeLine → F p = none → p ∉ L → RepKV C F L kvs ds → Fr C F L H0 H (.ref p) (.dic ds)
/-- a value that is looked at: its own object as it stands, what is in it frozen -/
inductive Pk (C : Cn) (F : Hp) (L : List Addr) (H : Hp) : V → D → Prop
  | rep {v : V} {d : D} : Rep C F L v d → Pk C F L H v d
  | lst {p : Addr} {vs : List V} {ds : List D} : H p = some (.lst vs) → p ∉ L → vs.length ≤ sizeLine → RepAll C F L vs ds → Pk C F L H (.ref p) (.lst ds)
  | dic {p : Addr} {kvs : List (Key × V)} {ds : List (D × D)} : H p = some (.dK kvs) → p ∉ L → kvs.length ≤ sizeLine → RepKV C F L kvs ds → Pk C F L H (.ref p) (.dic ds)
inductive Lv where
  | pk | rep | fr
def Vok (C : Cn) (F : Hp) (L : List Addr) (H0 H : Hp) : Lv → V → D → Prop
  | .pk, v, d => Pk C F L H v d
  | .rep, v, d => Rep C F L v d
  | .fr, v, d => if isFr d = true then Fr C F L H0 H v d else Rep C F L v d

/-! ### the frozen part takes an object -/
def fz (F : Hp) (p : Addr) (o : HO) : Hp := upd F p o
section
variable {C : Cn} {F : Hp} {L : List Addr} {H H0 : Hp} {S : Sto} {p : Addr} {o : HO}
theorem Sub.fz (n : F p = none) : Sub F (fz F p o) := fun a u h => by
  unfold MP.fz; rw [upd_ne (ne_of_none h n)]; exact h
theorem CellOk.up {F' : Hp} {L' : List Addr} {H' : Hp} {a : Addr} {c : Cell} (x : CellOk C F L H a c) (s : Sub F F') (l : L <+: L') (h : H' a = H a) : CellOk C F' L' H' a c := by
  cases x with
  | lst e z r => exact .lst (h.trans e) z (r.up s l)
  | ins e r z => exact .ins (h.trans e) (Paired.mapP r fun _ _ q => ⟨q.1, q.2.up s l⟩) z
/-- a tracked object that no cell holds is frozen -/
theorem Ok.freeze (k : Ok C F L H S) (h : H p = some o) (n : F p = none) (l : p ∉ L) : Ok C (fz F p o) L H S where
  sub := fun a u e => by
    by_cases ha : a = p
    · subst ha; unfold fz at e; rw [upd_same] at e; cases e; exact h
    · unfold fz at e; rw [upd_ne ha] at e; exact k.sub a u e
  fl := fun a ha => by
    have z : a ≠ p := fun e => l (e ▸ ha)
    unfold fz; rw [upd_ne z]; exact k.fl a ha
  nd := k.nd
  len := k.len
  cells := fun m c e => by
    obtain ⟨a, h1, h2⟩ := k.cells m c e
    exact ⟨a, h1, h2.up (Sub.fz n) (List.prefix_refl _) rfl⟩
theorem Ext.freeze {F1 : Hp} {L1 : List Addr} {H1 : Hp} (e : Ext F L H F1 L1 H1) (n : H p = none) (f : F1 p = none) : Ext F L H (fz F1 p o) L1 H1 where
  ff := e.ff.trans (Sub.fz f)
  ll := e.ll
  keep := e.keep
  there := e.there
  nF := fun a u h => by
    by_cases ha : a = p
    · subst ha; exact .inr n
    · unfold fz at h; rw [upd_ne ha] at h; exact e.nF a u h
  nL := e.nL
/-- a new object is laid, not frozen -/
theorem Ok.laid (k : Ok C F L H S) (n : H p = none) : Ok C F L (upd H p o) S where
  sub := fun a u e => by rw [upd_ne (ne_of_none (k.sub a u e) n)]; exact k.sub a u e
  fl := k.fl
  nd := k.nd
  len := k.len
  cells := fun m c e => by
    obtain ⟨a, h1, h2⟩ := k.cells m c e
    refine ⟨a, h1, h2.up (Sub.refl _) (List.prefix_refl _) ?_⟩
    have z : a ≠ p := by
      cases h2 with
      | lst q _ _ => exact ne_of_none q n
      | ins q _ _ => exact ne_of_none q n
    rw [upd_ne z]
theorem Ok.cell_some (k : Ok C F L H S) {a : Addr} (h : a ∈ L) : H a ≠ none := by
  obtain ⟨i, hi, e⟩ := List.getElem_of_mem h
  have hs : i < S.length := by rw [← k.len]; exact hi
  obtain ⟨b, h1, h2⟩ := k.cells i S[i] (List.getElem?_eq_getElem hs)
  have z : b = a := by rw [List.getElem?_eq_getElem hi, e] at h1; exact (Option.some.inj h1).symm
  subst z
  generalize S[i] = c at h2
  cases h2 with
  | lst q _ _ => rw [q]; simp
  | ins q _ _ => rw [q]; simp
theorem Ok.notL (k : Ok C F L H S) (n : H p = none) : p ∉ L := fun h => k.cell_some h n
theorem Ok.notF (k : Ok C F L H S) (n : H p = none) : F p = none := by
  cases q : F p with
  | none => rfl
  | some o => rw [k.sub p o q] at n; cases n
theorem Ext.laid {F1 : Hp} {L1 : List Addr} {H1 : Hp} (e : Ext F L H F1 L1 H1) (n : H1 p = none) : Ext F L H F1 L1 (upd H1 p o) where
  ff := e.ff
  ll := e.ll
  keep := fun a u h z => by rw [upd_ne (ne_of_none (e.keep a u h z) n)]; exact e.keep a u h z
  there := fun a h z => by
    by_cases ha : a = p
    · subst ha; rw [upd_same]; simp
    · rw [upd_ne ha]; exact e.there a h z
  nF := e.nF
  nL := e.nL
theorem Fr.freeze {F1 : Hp} {L1 : List Addr} {H1 : Hp} {v : V} {d : D} (x : Fr C F1 L1 H H1 v d) (k : Ok C F1 L1 H1 S) (e : Ext F L H F1 L1 H1) : ∃ F2, Ok C F2 L1 H1 S ∧ Ext F L H F2 L1 H1 ∧ Rep C F2 L1 v d := by
  cases x with
  | lst n h z f l r => exact ⟨_, k.freeze h f l, e.freeze n f, .lst upd_same z (r.up (Sub.fz f) (List.prefix_refl _))⟩
  | dic n h z f l r => exact ⟨_, k.freeze h f l, e.freeze n f, .dic upd_same z (r.up (Sub.fz f) (List.prefix_refl _))⟩
theorem Fr.pk {F1 : Hp} {L1 : List Addr} {H1 : Hp} {v : V} {d : D} (x : Fr C F1 L1 H H1 v d) : Pk C F1 L1 H1 v d := by
  cases x with
  | lst n h z f l r => exact .lst h l z r
  | dic n h z f l r => exact .dic h l z r
end

/-! ### the names of a frame -/
def SlotOk (C : Cn) (F : Hp) (L : List Addr) (H : Hp) : Slot → Option V → Prop
  | .no, _ => True
  | .imm d, x => ∃ v, x = some v ∧ Rep C F L v d
  | .own d, x => ∃ v, x = some v ∧ Fr C F L (fun _ => none) H v d
structure EnvOk (C : Cn) (F : Hp) (L : List Addr) (H : Hp) (ρ : Env') (σ : Sg) : Prop where
  len : ρ.length = σ.length
  slot : ∀ (i : Nat) (z : Slot) (x : Option V), ρ[i]? = some z → σ[i]? = some x → SlotOk C F L H z x
  sep : ∀ (i j : Nat) (d e : D) (v : V), ρ[i]? = some (.own d) → ρ[j]? = some (.own e) → σ[i]? = some (some v) → σ[j]? = some (some v) → i = j
section
variable {C : Cn} {F F1 : Hp} {L L1 : List Addr} {H H1 H0 : Hp} {S : Sto} {ρ : Env'} {σ : Sg}
theorem Fr.ext {v : V} {d : D} {H2 : Hp} (x : Fr C F L H2 H v d) (e : Ext F L H F1 L1 H1) : Fr C F1 L1 H2 H1 v d := by
  cases x with
  | @lst p vs ds n h z f l r =>
    refine .lst n (e.keep _ _ h l) z ?_ (fun q => ?_) (r.up e.ff e.ll)
    · cases q : F1 p with
      | none => rfl
      | some o =>
        rcases e.nF p o q with w | w
        · rw [f] at w; cases w
        · rw [h] at w; cases w
    · rcases e.nL p q with w | w
      · exact l w
      · rw [h] at w; cases w
  | @dic p vs ds n h z f l r =>
    refine .dic n (e.keep _ _ h l) z ?_ (fun q => ?_) (r.up e.ff e.ll)
    · cases q : F1 p with
      | none => rfl
      | some o =>
        rcases e.nF p o q with w | w
        · rw [f] at w; cases w
        · rw [h] at w; cases w
    · rcases e.nL p q with w | w
      · exact l w
      · rw [h] at w; cases w
theorem SlotOk.ext {z : Slot} {x : Option V} (h : SlotOk C F L H z x) (e : Ext F L H F1 L1 H1) : SlotOk C F1 L1 H1 z x := by
  cases z with
  | no => trivial
  | imm d => obtain ⟨v, q, r⟩ := h; exact ⟨v, q, r.up e.ff e.ll⟩
  | own d => obtain ⟨v, q, r⟩ := h; exact ⟨v, q, r.ext e⟩
theorem EnvOk.ext (h : EnvOk C F L H ρ σ) (e : Ext F L H F1 L1 H1) : EnvOk C F1 L1 H1 ρ σ := ⟨h.len, fun i z x a b => (h.slot i z x a b).ext e, h.sep⟩
theorem EnvOk.imm (h : EnvOk C F L H ρ σ) {i : Nat} {d : D} (e : ρ[i]? = some (.imm d)) : ∃ v, σ[i]? = some (some v) ∧ Rep C F L v d := by
  have hi : i < σ.length := by rw [← h.len]; exact (List.getElem?_eq_some_iff.mp e).1
  obtain ⟨v, q, r⟩ := h.slot i _ σ[i] e (List.getElem?_eq_getElem hi)
  exact ⟨v, by rw [List.getElem?_eq_getElem hi, q], r⟩
theorem EnvOk.own (h : EnvOk C F L H ρ σ) {i : Nat} {d : D} (e : ρ[i]? = some (.own d)) : ∃ v, σ[i]? = some (some v) ∧ Fr C F L (fun _ => none) H v d := by
  have hi : i < σ.length := by rw [← h.len]; exact (List.getElem?_eq_some_iff.mp e).1
  obtain ⟨v, q, r⟩ := h.slot i _ σ[i] e (List.getElem?_eq_getElem hi)
  exact ⟨v, by rw [List.getElem?_eq_getElem hi, q], r⟩
end
end MP

/-! MP: the readings of expressions, and the rules of the layer told by them. -/
namespace MP
open PySem PySem.Spec PyProof.Rows L2

/-- an exception's own dict -/
def xfN (c : Nat) : Str := if c = 8 then "line" else "index"
def XOk (C : Cn) (F : Hp) (L : List Addr) (H : Hp) (x : Exn) (dx : Option Addr) : Prop := match x.a with
  | none => dx = none
  | some d => ∃ a v, dx = some a ∧ H a = some (.xd [(xfN x.c, v)]) ∧ Rep C F L v d
/-- what is wanted of a run -/
def Rn (C : Cn) (W : WX) (σ : Sg) (F : Hp) (L : List Addr) (H : Hp) {α : Type} (r : R α) (P : Hp → List Addr → Hp → Sto → α → Prop) : Prop := match r with
  | .ok a S' => ∀ F' L' H', Ext F L H F' L' H' → Ok C F' L' H' S' → P F' L' H' S' a
  | .exc x S' => ∀ F' L' H' dx, Ext F L H F' L' H' → Ok C F' L' H' S' → XOk C F' L' H' x dx → W (.ref (C.cx x.c)) dx σ H'
  | .stuck => False
section
variable {C : Cn} {W : WX} {σ : Sg} {F F1 : Hp} {L L1 : List Addr} {H H1 : Hp} {α β : Type}
theorem Rn.imp {r : R α} {P P' : Hp → List Addr → Hp → Sto → α → Prop} (h : Rn C W σ F L H r P) (f : ∀ F' L' H' S' a, Ext F L H F' L' H' → Ok C F' L' H' S' → P F' L' H' S' a → P' F' L' H' S' a) : Rn C W σ F L H r P' := by
  cases r with
  | ok a S' => exact fun F' L' H' e k => f _ _ _ _ _ e k (h _ _ _ e k)
  | exc x S' => exact h
  | stuck => exact h
theorem Rn.start {r : R α} {P : Hp → List Addr → Hp → Sto → α → Prop} (h : Rn C W σ F L H r P) (e : Ext F L H F1 L1 H1) : Rn C W σ F1 L1 H1 r P := by
  cases r with
  | ok a S' => exact fun F' L' H' e' k => h _ _ _ (e.trans e') k
  | exc x S' => exact fun F' L' H' dx e' k => h _ _ _ _ (e.trans e') k
  | stuck => exact h
theorem Rn.bind {r : R α} {f : α → Sto → R β} {P : Hp → List Addr → Hp → Sto → β → Prop} (h : Rn C W σ F L H (r.bind f) P) : Rn C W σ F L H r (fun F' L' H' S' a => Rn C W σ F' L' H' (f a S') P) := by
  cases r with
  | ok a S' => exact fun F' L' H' e k => Rn.start h e
  | exc x S' => exact h
  | stuck => exact h
theorem Rn.of {o : Option α} {S : Sto} {P : Hp → List Addr → Hp → Sto → α → Prop} (h : Rn C W σ F L H (R.of o S) P) : ∃ a, o = some a ∧ Rn C W σ F L H (.ok a S) P := by
  cases o with
  | none => exact False.elim h
  | some a => exact ⟨a, rfl, h⟩
theorem Rn.now {a : α} {S : Sto} {P : Hp → List Addr → Hp → Sto → α → Prop} (h : Rn C W σ F L H (.ok a S) P) (k : Ok C F L H S) : P F L H S a := h _ _ _ (Ext.refl _ _ _) k
end
def tE (C : Cn) (W : WX) (lv : Lv) (m : Env' → Sto → R D) : TE := fun σ H Q => ∃ F L S ρ, Ok C F L H S ∧ EnvOk C F L H ρ σ ∧
  Rn C W σ F L H (m ρ S) fun F' L' H' _ d => ∀ v, Vok C F' L' H H' lv v d → Q v H'
/-- a test -/
def tT (C : Cn) (W : WX) (m : Env' → Sto → R Bool) : TT := fun σ H Q => ∃ F L S ρ, Ok C F L H S ∧ EnvOk C F L H ρ σ ∧
  Rn C W σ F L H (m ρ S) fun _ _ H' _ b => Q b H'
/-- arguments -/
def tA (C : Cn) (W : WX) (m : Env' → Sto → R (List D)) : TA := fun σ H Q => ∃ F L S ρ, Ok C F L H S ∧ EnvOk C F L H ρ σ ∧
  Rn C W σ F L H (m ρ S) fun F' L' H' _ ds => ∀ vs, RepAll C F' L' vs ds → Q vs H'

theorem PE.imp {X : Cx} {e : Expr} {t t' : TE} (h : PE X e t) (f : ∀ σ H Q, t' σ H Q → t σ H Q) : PE X e t' := ⟨fun pins s σ H Q I q => h.run pins s σ H Q I (f σ H Q q)⟩
theorem PT.imp {X : Cx} {e : Expr} {t t' : TT} (h : PT X e t) (f : ∀ σ H Q, t' σ H Q → t σ H Q) : PT X e t' := ⟨fun pins s σ H Q I q => h.run pins s σ H Q I (f σ H Q q)⟩
theorem PA.imp {X : Cx} {e : List Expr} {t t' : TA} (h : PA X e t) (f : ∀ σ H Q, t' σ H Q → t σ H Q) : PA X e t' := ⟨fun pos pins s σ H Q I q => h.run pos pins s σ H Q I (f σ H Q q)⟩

section
variable {C : Cn} {W : WX} {X : Cx} {F F1 F2 : Hp} {L L1 : List Addr} {H H0 H1 : Hp} {S : Sto} {ρ : Env'} {σ : Sg} {lv : Lv}
theorem Pk.ext {v : V} {d : D} (x : Pk C F L H v d) (e : Ext F L H F1 L1 H1) : Pk C F1 L1 H1 v d := by
  cases x with
  | rep r => exact .rep (r.up e.ff e.ll)
  | lst h n z r => exact .lst (e.keep _ _ h n) (fun q => (e.nL _ q).elim n fun w => by rw [h] at w; cases w) z (r.up e.ff e.ll)
  | dic h n z r => exact .dic (e.keep _ _ h n) (fun q => (e.nL _ q).elim n fun w => by rw [h] at w; cases w) z (r.up e.ff e.ll)
theorem Vok.fr {v : V} {d : D} (x : Fr C F L H0 H v d) : Vok C F L H0 H .fr v d := by
  have h : isFr d = true := by cases x <;> rfl
  simpa [Vok, h] using x
theorem Vok.re {v : V} {d : D} (h : isFr d = false) (x : Rep C F L v d) : Vok C F L H0 H .fr v d := by simpa [Vok, h] using x
theorem Vok.weak {v : V} {d : D} {S : Sto} (x : Vok C F1 L1 H H1 .fr v d) (k : Ok C F1 L1 H1 S) (e : Ext F L H F1 L1 H1) : ∃ F2, Ok C F2 L1 H1 S ∧ Ext F L H F2 L1 H1 ∧ Rep C F2 L1 v d := by
  by_cases h : isFr d = true
  · have x' : Fr C F1 L1 H H1 v d := by simpa [Vok, h] using x
    exact x'.freeze k e
  · have x' : Rep C F1 L1 v d := by simpa [Vok, h] using x
    exact ⟨F1, k, e, x'⟩
theorem Fr.from {v : V} {d : D} (x : Fr C F L H1 H v d) (h : ∀ a, H1 a = none → H0 a = none) : Fr C F L H0 H v d := by
  cases x with
  | lst n a b c d e => exact .lst (h _ n) a b c d e
  | dic n a b c d e => exact .dic (h _ n) a b c d e
theorem Vok.from {v : V} {d : D} (x : Vok C F L H1 H lv v d) (h : ∀ a, H1 a = none → H0 a = none) : Vok C F L H0 H lv v d := by
  cases lv with
  | pk => exact x
  | rep => exact x
  | fr =>
    by_cases z : isFr d = true
    · have x' : Fr C F L H1 H v d := by simpa [Vok, z] using x
      exact Vok.fr (x'.from h)
    · have x' : Rep C F L v d := by simpa [Vok, z] using x
      exact Vok.re (by simpa using z) x'
theorem Vok.pk {v : V} {d : D} (x : Vok C F L H0 H lv v d) : Pk C F L H v d := by
  cases lv with
  | pk => exact x
  | rep => exact .rep x
  | fr =>
    by_cases h : isFr d = true
    · have x' : Fr C F L H0 H v d := by simpa [Vok, h] using x
      exact x'.pk
    · have x' : Rep C F L v d := by simpa [Vok, h] using x
      exact .rep x'
/-- what is known fresh may be frozen -/
theorem pe_fr {ex : Expr} {m : Env' → Sto → R D} (h : PE X ex (tE C W .fr m)) : PE X ex (tE C W .rep m) := by
  refine PE.imp h fun σ H Q ⟨F, L, S, ρ, k, en, q⟩ => ⟨F, L, S, ρ, k, en, ?_⟩
  cases e : m ρ S with
  | ok d S' =>
    rw [e] at q
    intro F' L' H' x k' v r
    obtain ⟨F2, k2, x2, r2⟩ := Vok.weak r k' x
    exact q _ _ _ x2 k2 _ r2
  | exc x S' => rw [e] at q; exact q
  | stuck => rw [e] at q; exact q
theorem pe_rep {ex : Expr} {m : Env' → Sto → R D} (h : PE X ex (tE C W .rep m)) : PE X ex (tE C W .pk m) :=
  PE.imp h fun σ H Q ⟨F, L, S, ρ, k, en, q⟩ => ⟨F, L, S, ρ, k, en, q.imp fun _ _ _ _ _ _ _ p v r => p v (.rep r)⟩
/-- other words for the same -/
theorem pe_cong {ex : Expr} {m m' : Env' → Sto → R D} (p : PE X ex (tE C W lv m)) (h : ∀ ρ s, m' ρ s = m ρ s) : PE X ex (tE C W lv m') :=
  PE.imp p fun σ H Q ⟨F, L, S, ρ, k, en, q⟩ => ⟨F, L, S, ρ, k, en, by rw [← h]; exact q⟩

/-! ### names, constants -/
theorem sizeBIG : sizeLine = BIG := by rw [sizeLine_eq]; rfl
theorem immAt_some {ρ : Env'} {i : Nat} {d : D} (h : immAt ρ i = some d) : ρ[i]? = some (.imm d) := by
  unfold immAt at h
  split at h
  · rename_i e; rw [e, Option.some.inj h]
  · cases h
theorem pkAt_some {ρ : Env'} {i : Nat} {d : D} (h : pkAt ρ i = some d) : ρ[i]? = some (.imm d) ∨ ρ[i]? = some (.own d) := by
  unfold pkAt at h
  split at h
  · rename_i e; rw [e, Option.some.inj h]; exact .inl rfl
  · rename_i e; rw [e, Option.some.inj h]; exact .inr rfl
  · cases h
theorem m_var {i : Nat} {x : Str} {pos : Pos} (h : PE X (.Name x pos) (tVar i)) : PE X (.Name x pos) (tE C W .rep fun ρ s => R.of (immAt ρ i) s) := by
  refine PE.imp h fun σ H Q ⟨F, L, S, ρ, k, en, q⟩ => ?_
  obtain ⟨d, e, q⟩ := q.of
  obtain ⟨v, h1, r⟩ := en.imm (immAt_some e)
  exact ⟨v, h1, q.now k v r⟩
theorem m_pk {i : Nat} {x : Str} {pos : Pos} (h : PE X (.Name x pos) (tVar i)) : PE X (.Name x pos) (tE C W .pk fun ρ s => R.of (pkAt ρ i) s) := by
  refine PE.imp h fun σ H Q ⟨F, L, S, ρ, k, en, q⟩ => ?_
  obtain ⟨d, e, q⟩ := q.of
  rcases pkAt_some e with e | e
  · obtain ⟨v, h1, r⟩ := en.imm e
    exact ⟨v, h1, q.now k v (.rep r)⟩
  · obtain ⟨v, h1, r⟩ := en.own e
    exact ⟨v, h1, q.now k v (r.pk)⟩
/-- a constant value -/
theorem m_const {e : Expr} {v : V} {d : D} (h : PE X e (tC v)) (r : ∀ F L, Rep C F L v d) (hd : isFr d = false) : PE X e (tE C W .fr fun _ s => .ok d s) :=
  PE.imp h fun σ H Q ⟨F, L, S, ρ, k, en, q⟩ => q.now k v (Vok.re hd (r F L))
theorem m_glob {e : Expr} {v : V} {d : D} (h : PE X e (tC v)) (r : ∀ F L, Rep C F L v d) : PE X e (tE C W .rep fun _ s => .ok d s) :=
  PE.imp h fun σ H Q ⟨F, L, S, ρ, k, en, q⟩ => q.now k v (r F L)

/-! ### two-place operations -/
/-- what a rule must give: at each state, from what the two values are, the answer -/
def OpOk (C : Cn) (lv : Lv) (r : R2) (f : D → D → Option D) : Prop := ∀ (F : Hp) (L : List Addr) (H : Hp) (S : Sto) (x y : V) (a b d : D) (Q : VK), Ok C F L H S → Pk C F L H x a → Pk C F L H y b → f a b = some d →
  (∀ F' L' H' v, Ext F L H F' L' H' → Ok C F' L' H' S → Vok C F' L' H H' lv v d → Q v H') → r x y H Q
theorem m_op {op : Operator} {a b : Expr} {pos : Pos} {r : R2} {f : D → D → Option D} {ma mb : Env' → Sto → R D} (ho : OpR X (binaryOp op) r) (hf : OpOk C lv r f) (ha : PE X a (tE C W .pk ma)) (hb : PE X b (tE C W .pk mb)) :
    PE X (.BinOp a op b pos) (tE C W lv fun ρ s => (ma ρ s).bind fun x s => (mb ρ s).bind fun y s => R.of (f x y) s) := by
  refine PE.imp (pe_op ho ha hb) fun σ H Q ⟨F, L, S, ρ, k, en, q⟩ => ⟨F, L, S, ρ, k, en, q.bind.imp fun F1 L1 H1 S1 x e1 k1 q1 v1 r1 => ?_⟩
  refine ⟨F1, L1, S1, ρ, k1, en.ext e1, q1.bind.imp fun F2 L2 H2 S2 y e2 k2 q2 v2 r2 => ?_⟩
  obtain ⟨d, hd, q2⟩ := q2.of
  exact hf _ _ _ _ _ _ _ _ _ _ k2 (Pk.ext r1 e2) r2 hd fun F' L' H' v e k' r => q2 _ _ _ e k' v (r.from fun a h => (e1.trans e2).none_of h)
theorem m_cmpR {op : CmpOp} {a b : Expr} {pos : Pos} {r : R2} {f : D → D → Option D} {ma mb : Env' → Sto → R D} (ho : OpR X (compareOp op) r) (hm : behindInMarks op b = false) (hf : OpOk C lv r f) (ha : PE X a (tE C W .pk ma)) (hb : PE X b (tE C W .pk mb)) :
    PE X (.Compare a [op] [b] pos) (tE C W lv fun ρ s => (ma ρ s).bind fun x s => (mb ρ s).bind fun y s => R.of (f x y) s) := by
  refine PE.imp (pe_cmpR ho ha hb hm) fun σ H Q ⟨F, L, S, ρ, k, en, q⟩ => ⟨F, L, S, ρ, k, en, q.bind.imp fun F1 L1 H1 S1 x e1 k1 q1 v1 r1 => ?_⟩
  refine ⟨F1, L1, S1, ρ, k1, en.ext e1, q1.bind.imp fun F2 L2 H2 S2 y e2 k2 q2 v2 r2 => ?_⟩
  obtain ⟨d, hd, q2⟩ := q2.of
  exact hf _ _ _ _ _ _ _ _ _ _ k2 (Pk.ext r1 e2) r2 hd fun F' L' H' v e k' r => q2 _ _ _ e k' v (r.from fun a h => (e1.trans e2).none_of h)
end
end MP

/-! MP: operators by values. -/
namespace MP
open PySem PySem.Spec PyProof.Rows L2

/-! ### plain data -/
mutual
def D.pd : D → PyData
  | .non => .none
  | .bl b => .bool b
  | .int i => .int i
  | .str x => .str x
  | .tup xs => .tuple (D.pds xs)
  | .lst xs => .list (D.pds xs)
  | _ => .none
def D.pds : List D → List PyData
  | [] => []
  | x :: xs => D.pd x :: D.pds xs
end
mutual
theorem D.plain_mono : ∀ {n m : Nat} {d : D}, n ≤ m → D.plain n d = true → D.plain m d = true
  | _, _, .non, _, _ | _, _, .bl _, _, _ | _, _, .int _, _, _ | _, _, .str _, _, _ => by simp [D.plain]
  | 0, _, .tup _, _, h | 0, _, .lst _, _, h => by simp [D.plain] at h
  | n + 1, m, .tup xs, l, h => by
    obtain ⟨m, rfl⟩ : ∃ k, m = k + 1 := ⟨m - 1, by omega⟩
    simp only [D.plain] at h ⊢
    exact D.plains_mono (by omega) h
  | n + 1, m, .lst xs, l, h => by
    obtain ⟨m, rfl⟩ : ∃ k, m = k + 1 := ⟨m - 1, by omega⟩
    simp only [D.plain] at h ⊢
    exact D.plains_mono (by omega) h
  | _, _, .dic _, _, h | _, _, .prg _ _ _, _, h | _, _, .ref _, _, h => by simp [D.plain] at h
theorem D.plains_mono : ∀ {n m : Nat} {d : List D}, n ≤ m → D.plains n d = true → D.plains m d = true
  | _, _, [], _, _ => by simp [D.plains]
  | n, m, x :: xs, l, h => by
    simp only [D.plains, Bool.and_eq_true] at h ⊢
    exact ⟨D.plain_mono l h.1, D.plains_mono l h.2⟩
end
mutual
theorem pd_depth : ∀ {n : Nat} {d : D}, D.plain n d = true → d.pd.depth ≤ n
  | _, .non, _ | _, .bl _, _ | _, .int _, _ | _, .str _, _ => by simp [D.pd, PyData.depth]
  | 0, .tup _, h | 0, .lst _, h => by simp [D.plain] at h
  | n + 1, .tup xs, h => by
    simp only [D.plain] at h
    simp only [D.pd, PyData.depth]
    have := pds_depth h; omega
  | n + 1, .lst xs, h => by
    simp only [D.plain] at h
    simp only [D.pd, PyData.depth]
    have := pds_depth h; omega
  | _, .dic _, h | _, .prg _ _ _, h | _, .ref _, h | _, .scr _, h => by simp [D.plain] at h
theorem pds_depth : ∀ {n : Nat} {ds : List D}, D.plains n ds = true → PyData.depthAll (D.pds ds) ≤ n
  | _, [], _ => by simp [D.pds, PyData.depthAll]
  | n, x :: xs, h => by
    simp only [D.plains, Bool.and_eq_true] at h
    simp only [D.pds, PyData.depthAll]
    have h1 := pd_depth h.1
    have h2 := pds_depth h.2
    omega
end
mutual
theorem pd_eqv : ∀ {n m : Nat} {a b : D}, D.plain n a = true → D.plain m b = true → PyData.eqv a.pd b.pd = a.eqv b
  | n, m, a, b, h, h' => by
    cases a <;> cases b <;> first
      | (simp [D.plain] at h; done)
      | (simp [D.plain] at h'; done)
      | (simp [D.pd, D.eqv, PyData.eqv]; done)
      | (rename_i xs ys
         cases n with
         | zero => simp [D.plain] at h
         | succ n =>
           cases m with
           | zero => simp [D.plain] at h'
           | succ m =>
             simp only [D.plain] at h h'
             simp only [D.pd, D.eqv, PyData.eqv]
             exact pds_eqv h h')
theorem pds_eqv : ∀ {n m : Nat} {a b : List D}, D.plains n a = true → D.plains m b = true → PyData.eqvAll (D.pds a) (D.pds b) = D.eqvs a b
  | _, _, [], [], _, _ => by simp [D.pds, D.eqvs, PyData.eqvAll]
  | _, _, [], _ :: _, _, _ => by simp [D.pds, D.eqvs, PyData.eqvAll]
  | _, _, _ :: _, [], _, _ => by simp [D.pds, D.eqvs, PyData.eqvAll]
  | n, m, x :: xs, y :: ys, h, h' => by
    simp only [D.plains, Bool.and_eq_true] at h h'
    simp only [D.pds, D.eqvs, PyData.eqvAll]
    rw [pd_eqv h.1 h'.1, pds_eqv h.2 h'.2]
end
theorem sOk_len {x : Str} (h : sOk x = true) : x.length ≤ sizeLine := by
  unfold sOk at h
  simp only [Bool.and_eq_true, decide_eq_true_eq] at h
  rw [sizeBIG]; exact h.1
theorem sOk_ok {x : Str} (h : sOk x = true) : PyData.strOk x = true := by
  unfold sOk at h
  simp only [Bool.and_eq_true, decide_eq_true_eq] at h
  exact h.2
section
variable {C : Cn} {F : Hp} {L : List Addr} {H H0 : Hp} {S : Sto}
mutual
theorem Rep.canLay : ∀ {n : Nat} {v : V} {d : D}, Rep C F L v d → D.plain n d = true → d.pd.canLay0 = true
  | _, _, _, .non, _ => by simp [D.pd, PyData.canLay0]
  | _, _, _, .bl _, _ => by simp [D.pd, PyData.canLay0]
  | _, _, _, .int _, _ => by simp [D.pd, PyData.canLay0]
  | _, _, _, .str x h, _ => by simp only [D.pd, PyData.canLay0]; exact sOk_ok h
  | 0, _, _, .tup _ _ _, h => by simp [D.plain] at h
  | 0, _, _, .lst _ _ _, h => by simp [D.plain] at h
  | n + 1, _, _, .tup _ _ r, h => by simp only [D.plain] at h; simp only [D.pd, PyData.canLay0]; exact RepAll.canLay r h
  | n + 1, _, _, .lst _ _ r, h => by simp only [D.plain] at h; simp only [D.pd, PyData.canLay0]; exact RepAll.canLay r h
  | _, _, _, .dic _ _ _, h => by simp [D.plain] at h
  | _, _, _, .prg _ _ _ _ _ _, h => by simp [D.plain] at h
  | _, _, _, .scr _ _, h => by simp [D.plain] at h
  | _, _, _, .ref _, h => by simp [D.plain] at h
theorem RepAll.canLay : ∀ {n : Nat} {v : List V} {d : List D}, RepAll C F L v d → D.plains n d = true → PyData.canLayAll0 (D.pds d) = true
  | _, _, _, .nil, _ => by simp [D.pds, PyData.canLayAll0]
  | _, _, _, .cons r t, h => by
    simp only [D.plains, Bool.and_eq_true] at h
    simp only [D.pds, PyData.canLayAll0, Bool.and_eq_true]
    exact ⟨Rep.canLay r h.1, RepAll.canLay t h.2⟩
end
mutual
theorem Rep.dp (s : Sub F H) : ∀ {n : Nat} {v : V} {d : D}, Rep C F L v d → D.plain n d = true → Dp C.K H v d.pd
  | _, _, _, .non, _ => by simp only [D.pd]; exact .non
  | _, _, _, .bl _, _ => by simp only [D.pd]; exact .bl _
  | _, _, _, .int _, _ => by simp only [D.pd]; exact .int _
  | _, _, _, .str x h, _ => by simp only [D.pd]; exact .str _
  | 0, _, _, .tup _ _ _, h => by simp [D.plain] at h
  | 0, _, _, .lst _ _ _, h => by simp [D.plain] at h
  | n + 1, _, _, .tup q _ r, h => by simp only [D.plain] at h; simp only [D.pd]; exact .tup (s.sqT q) (RepAll.dp s r h)
  | n + 1, _, _, .lst q _ r, h => by simp only [D.plain] at h; simp only [D.pd]; exact .lst (SqL.of (s _ _ q)) (RepAll.dp s r h)
  | _, _, _, .dic _ _ _, h => by simp [D.plain] at h
  | _, _, _, .prg _ _ _ _ _ _, h => by simp [D.plain] at h
  | _, _, _, .scr _ _, h => by simp [D.plain] at h
  | _, _, _, .ref _, h => by simp [D.plain] at h
theorem RepAll.dp (s : Sub F H) : ∀ {n : Nat} {v : List V} {d : List D}, RepAll C F L v d → D.plains n d = true → DpAll C.K H v (D.pds d)
  | _, _, _, .nil, _ => by simp only [D.pds]; exact .nil
  | _, _, _, .cons r t, h => by
    simp only [D.plains, Bool.and_eq_true] at h
    simp only [D.pds]
    exact .cons (Rep.dp s r h.1) (RepAll.dp s t h.2)
end
theorem Pk.dp (s : Sub F H) {n : Nat} {v : V} {d : D} (x : Pk C F L H v d) (h : D.plain n d = true) : Dp C.K H v d.pd ∧ d.pd.canLay0 = true := by
  cases x with
  | rep r => exact ⟨r.dp s h, r.canLay h⟩
  | lst q _ z r =>
    cases n with
    | zero => simp [D.plain] at h
    | succ n =>
      simp only [D.plain] at h
      simp only [D.pd, PyData.canLay0]
      exact ⟨.lst (SqL.of q) (r.dp s h), r.canLay h⟩
  | dic _ _ _ _ => simp [D.plain] at h
theorem Pk.shaped (s : Sub F H) {v : V} {d : D} (x : Pk C F L H v d) (h : D.plain 64 d = true) : Dp C.K H v d.pd ∧ SeqAt.shaped d.pd = true := by
  obtain ⟨h1, h2⟩ := x.dp s h
  refine ⟨h1, ?_⟩
  unfold SeqAt.shaped
  rw [h2, Bool.true_and]
  exact decide_eq_true (pd_depth h)
/-! ### what a value is, by its tree -/
theorem Pk.int {v : V} {i : Int} (x : Pk C F L H v (.int i)) : v = .int i := by
  cases x with
  | rep r => cases r; rfl
theorem Pk.bl {v : V} {b : Bool} (x : Pk C F L H v (.bl b)) : v = .bl b := by
  cases x with
  | rep r => cases r; rfl
theorem Pk.non {v : V} (x : Pk C F L H v .non) : v = .non := by
  cases x with
  | rep r => cases r; rfl
theorem Pk.str {v : V} {z : Str} (x : Pk C F L H v (.str z)) : v = .str z ∧ sOk z = true := by
  cases x with
  | rep r => cases r with | str _ h => exact ⟨rfl, h⟩
theorem Pk.tup (s : Sub F H) {v : V} {ds : List D} (x : Pk C F L H v (.tup ds)) : ∃ a vs, v = .ref a ∧ SqT C.K H a vs ∧ vs.length ≤ sizeLine ∧ RepAll C F L vs ds ∧ Rep C F L v (.tup ds) := by
  cases x with
  | rep r => cases id r with | tup h z q => exact ⟨_, _, rfl, s.sqT h, z, q, r⟩
theorem Pk.list (s : Sub F H) {v : V} {ds : List D} (x : Pk C F L H v (.lst ds)) : ∃ a vs, v = .ref a ∧ H a = some (.lst vs) ∧ vs.length ≤ sizeLine ∧ RepAll C F L vs ds := by
  cases x with
  | rep r => cases r with | lst h z q => exact ⟨_, _, rfl, s _ _ h, z, q⟩
  | lst h _ z q => exact ⟨_, _, rfl, h, z, q⟩
theorem Pk.dict (s : Sub F H) {v : V} {ds : List (D × D)} (x : Pk C F L H v (.dic ds)) : ∃ a kvs, v = .ref a ∧ H a = some (.dK kvs) ∧ kvs.length ≤ sizeLine ∧ RepKV C F L kvs ds := by
  cases x with
  | rep r => cases r with | dic h z q => exact ⟨_, _, rfl, s _ _ h, z, q⟩
  | dic h _ z q => exact ⟨_, _, rfl, h, z, q⟩
theorem Pk.nonI (x : V) (d : D) (h : Pk C F L H x d) : decide (x = .non) = isNb false d := by
  cases h with
  | rep r => cases r <;> simp [isNb]
  | lst _ _ _ _ => simp [isNb]
  | dic _ _ _ _ => simp [isNb]
theorem isNb_not (d : D) : (!isNb false d) = isNb true d := by cases d <;> rfl
end

section
variable {C : Cn} {W : WX} {X : Cx} {lv : Lv}
theorem OpOk.or {r r' : R2} {f f' : D → D → Option D} (h : OpOk C lv r f) (h' : OpOk C lv r' f') : OpOk C lv (fun x y H Q => r x y H Q ∨ r' x y H Q) (fun a b => (f a b).or (f' a b)) := by
  intro F L H S x y a b d Q k px py e q
  dsimp only at e
  cases e1 : f a b with
  | some d1 =>
    rw [e1] at e
    simp only [Option.some_or, Option.some.injEq] at e
    subst e
    exact .inl (h F L H S x y a b _ Q k px py e1 q)
  | none =>
    rw [e1, Option.none_or] at e
    exact .inr (h' F L H S x y a b _ Q k px py e q)
theorem OpOk.cong {r : R2} {f f' : D → D → Option D} (h : OpOk C lv r f) (e : ∀ a b d, f' a b = some d → f a b = some d) : OpOk C lv r f' := fun F L H S x y a b d Q k px py z q => h F L H S x y a b d Q k px py (e a b d z) q
/-! ### two ints -/
def fI (g : Int → Int → Option D) : D → D → Option D
  | .int i, .int j => g i j
  | _, _ => none
theorem fI_some {g : Int → Int → Option D} {a b d : D} (h : fI g a b = some d) : ∃ i j, a = .int i ∧ b = .int j ∧ g i j = some d := by
  unfold fI at h
  split at h
  · exact ⟨_, _, rfl, rfl, h⟩
  · cases h
theorem ok_I {P : Int → Int → Prop} {g : Int → Int → V} {f : Int → Int → Option D} (h : ∀ i j d, f i j = some d → P i j ∧ (∀ F L, Rep C F L (g i j) d) ∧ isFr d = false) : OpOk C .fr (rI P g) (fI f) := by
  intro F L H S x y a b d Q k px py e q
  obtain ⟨i, j, rfl, rfl, e⟩ := fI_some e
  obtain ⟨h1, h2, h3⟩ := h i j d e
  exact ⟨i, j, px.int, py.int, h1, q F L H _ (Ext.refl _ _ _) k (Vok.re h3 (h2 F L))⟩
theorem ok_I0 {g : Int → Int → V} {f : Int → Int → Option D} (h : ∀ i j d, f i j = some d → (∀ F L, Rep C F L (g i j) d) ∧ isFr d = false) : OpOk C .fr (rI0 g) (fI f) := by
  intro F L H S x y a b d Q k px py e q
  obtain ⟨i, j, rfl, rfl, e⟩ := fI_some e
  obtain ⟨h2, h3⟩ := h i j d e
  exact ⟨i, j, px.int, py.int, q F L H _ (Ext.refl _ _ _) k (Vok.re h3 (h2 F L))⟩
theorem ok_II {g : Int → Int → Int} : OpOk C .fr (rI0 fun i j => .int (g i j)) (fI fun i j => some (.int (g i j))) := ok_I0 fun i j d e => by cases e; exact ⟨fun _ _ => .int _, rfl⟩
theorem ok_IB {g : Int → Int → Bool} : OpOk C .fr (rI0 fun i j => .bl (g i j)) (fI fun i j => some (.bl (g i j))) := ok_I0 fun i j d e => by cases e; exact ⟨fun _ _ => .bl _, rfl⟩
/-! ### two texts -/
def fS (g : Str → Str → Option D) : D → D → Option D
  | .str i, .str j => g i j
  | _, _ => none
theorem fS_some {g : Str → Str → Option D} {a b d : D} (h : fS g a b = some d) : ∃ i j, a = .str i ∧ b = .str j ∧ g i j = some d := by
  unfold fS at h
  split at h
  · exact ⟨_, _, rfl, rfl, h⟩
  · cases h
theorem ok_SB {g : Str → Str → Bool} : OpOk C .fr (fun x y H Q => ∃ i j, x = .str i ∧ y = .str j ∧ Q (.bl (g i j)) H) (fS fun i j => some (.bl (g i j))) := by
  intro F L H S x y a b d Q k px py e q
  obtain ⟨i, j, rfl, rfl, e⟩ := fS_some e
  cases e
  exact ⟨i, j, px.str.1, py.str.1, q F L H _ (Ext.refl _ _ _) k (Vok.re rfl (.bl _))⟩
theorem mkStr_some {x : Str} {d : D} (h : mkStr x = some d) : d = .str x ∧ sOk x = true := by
  unfold mkStr at h
  split at h
  · cases h; exact ⟨rfl, by assumption⟩
  · cases h
theorem length_app (x y : Str) : (x ++ y).length = x.length + y.length := by
  show (x.cps ++ y.cps).size = x.cps.size + y.cps.size
  simp
theorem ok_addS : OpOk C .fr (fun x y H Q => ∃ i j, x = .str i ∧ y = .str j ∧ i.length + j.length ≤ sizeLine ∧ Q (.str (i ++ j)) H) (fS fun i j => mkStr (i ++ j)) := by
  intro F L H S x y a b d Q k px py e q
  obtain ⟨i, j, rfl, rfl, e⟩ := fS_some e
  obtain ⟨rfl, h⟩ := mkStr_some e
  exact ⟨i, j, px.str.1, py.str.1, by rw [← length_app]; exact sOk_len h, q F L H _ (Ext.refl _ _ _) k (Vok.re rfl (.str _ h))⟩
/-! ### a new object -/
theorem new_tup {F : Hp} {L : List Addr} {H : Hp} {S : Sto} {vs : List V} {ds : List D} {p : Addr} (k : Ok C F L H S) (n : H p = none) (z : vs.length ≤ sizeLine) (r : RepAll C F L vs ds) :
    ∃ F', Ext F L H F' L (upd H p (.tup vs)) ∧ Ok C F' L (upd H p (.tup vs)) S ∧ Rep C F' L (.ref p) (.tup ds) :=
  ⟨fz F p (.tup vs), ((Ext.refl F L H).laid n).freeze n (k.notF n), (k.laid n).freeze upd_same (k.notF n) (k.notL n), .tup (.inl (.inl upd_same)) z (r.up (Sub.fz (k.notF n)) (List.prefix_refl _))⟩
theorem new_lst {F : Hp} {L : List Addr} {H : Hp} {S : Sto} {vs : List V} {ds : List D} {p : Addr} (k : Ok C F L H S) (n : H p = none) (z : vs.length ≤ sizeLine) (r : RepAll C F L vs ds) :
    Ext F L H F L (upd H p (.lst vs)) ∧ Ok C F L (upd H p (.lst vs)) S ∧ Fr C F L H (upd H p (.lst vs)) (.ref p) (.lst ds) :=
  ⟨(Ext.refl F L H).laid n, k.laid n, .lst n upd_same z (k.notF n) (k.notL n) r⟩
theorem mkLst_some {xs : List D} {d : D} (h : mkLst xs = some d) : d = .lst xs ∧ xs.length ≤ sizeLine := by
  unfold mkLst at h
  split at h
  · cases h; exact ⟨rfl, by rw [sizeBIG]; assumption⟩
  · cases h
theorem mkTup_some {xs : List D} {d : D} (h : mkTup xs = some d) : d = .tup xs ∧ xs.length ≤ sizeLine := by
  unfold mkTup at h
  split at h
  · cases h; exact ⟨rfl, by rw [sizeBIG]; assumption⟩
  · cases h
theorem ok_cat : OpOk C .fr rCat (fun a b => match a, b with | .lst x, .lst y => mkLst (x ++ y) | _, _ => none) := by
  intro F L H S x y a b d Q k px py e q
  dsimp only at e
  split at e
  · obtain ⟨p, vs, rfl, h1, z1, r1⟩ := px.list k.sub
    obtain ⟨p', vs', rfl, h2, z2, r2⟩ := py.list k.sub
    obtain ⟨rfl, z⟩ := mkLst_some e
    have e1 := r1.length
    have e2 := r2.length
    rw [List.length_append] at z
    refine ⟨p, p', vs, vs', rfl, rfl, h1, h2, by omega, fun p n => ?_⟩
    obtain ⟨x1, x2, x3⟩ := new_lst k n (by rw [List.length_append]; omega) (r1.append r2)
    exact q _ _ _ _ x1 x2 (Vok.fr x3)
  · cases e
theorem ok_catT : OpOk C .fr (rCatA C.K) (fun a b => match a, b with | .tup x, .tup y => mkTup (x ++ y) | _, _ => none) := by
  intro F L H S x y a b d Q k px py e q
  dsimp only at e
  split at e
  · obtain ⟨p, vs, rfl, h1, z1, r1, rr1⟩ := px.tup k.sub
    obtain ⟨p', vs', rfl, h2, z2, r2, rr2⟩ := py.tup k.sub
    obtain ⟨rfl, z⟩ := mkTup_some e
    have e1 := r1.length
    have e2 := r2.length
    rw [List.length_append] at z
    refine ⟨p, p', vs, vs', rfl, rfl, h1, h2, by omega, fun n => ?_, fun n n' => ?_, fun _ _ p n => ?_⟩
    · subst n
      cases r1
      exact q F L H _ (Ext.refl _ _ _) k (Vok.re rfl (by simpa using rr2))
    · subst n'
      cases r2
      exact q F L H _ (Ext.refl _ _ _) k (Vok.re rfl (by simpa using rr1))
    · obtain ⟨F', x1, x2, x3⟩ := new_tup k n (by rw [List.length_append]; omega) (r1.append r2)
      exact q _ _ _ _ x1 x2 (Vok.re rfl x3)
  · cases e
/-! ### the tables of operators -/
def opOf : BO → Operator
  | .add => .Add | .sub => .Sub | .mul => .Mult | .fdiv => .FloorDiv | .mod => .Mod | .pow => .Pow
theorem bin_ok (o : BO) (hK : X.K = C.K) : ∃ r, OpR X (binaryOp (opOf o)) r ∧ OpOk C .fr r (dBin o) := by
  cases o with
  | add =>
    refine ⟨_, op_add.or (op_add_str.or (op_cat.or op_catA)), ?_⟩
    rw [hK]
    refine OpOk.cong (ok_II.or (ok_addS.or (ok_cat.or ok_catT))) fun a b d e => ?_
    cases a <;> cases b <;> simp_all [dBin, fI, fS]
  | sub => exact ⟨_, op_sub, OpOk.cong ok_II fun a b d e => by cases a <;> cases b <;> simp_all [dBin, fI]⟩
  | mul =>
    refine ⟨_, op_mul, OpOk.cong (ok_I (f := fun i j => if small i || small j then some (.int (i * j)) else none) fun i j d e => ?_) fun a b d e => by cases a <;> cases b <;> simp_all [dBin, fI]⟩
    split at e
    · rename_i h
      cases e
      refine ⟨?_, fun _ _ => .int _, rfl⟩
      simp only [small, Bool.or_eq_true, Bool.and_eq_true, decide_eq_true_eq] at h
      exact h
    · cases e
  | fdiv =>
    refine ⟨_, op_fdiv, OpOk.cong (ok_I (f := fun i j => if decide (0 < j) && decide (j < 1073741824) then some (.int (i / j)) else none) fun i j d e => ?_) fun a b d e => by cases a <;> cases b <;> simp_all [dBin, fI]⟩
    split at e
    · rename_i h
      cases e
      refine ⟨?_, fun _ _ => .int _, rfl⟩
      simp only [Bool.and_eq_true, decide_eq_true_eq] at h
      exact h
    · cases e
  | mod =>
    refine ⟨_, op_mod, OpOk.cong (ok_I (f := fun i j => if decide (0 < j) then some (.int (i % j)) else none) fun i j d e => ?_) fun a b d e => by cases a <;> cases b <;> simp_all [dBin, fI]⟩
    split at e
    · rename_i h
      cases e
      refine ⟨?_, fun _ _ => .int _, rfl⟩
      simp only [decide_eq_true_eq] at h
      exact h
    · cases e
  | pow =>
    refine ⟨_, op_pow, OpOk.cong (ok_I (f := fun i j => if decide (0 ≤ j) && decide (j ≤ 1000000) && decide (i.natAbs < 2 ^ 64) then some (.int (i ^ j.toNat)) else none) fun i j d e => ?_) fun a b d e => by cases a <;> cases b <;> simp_all [dBin, fI]⟩
    split at e
    · rename_i h
      cases e
      refine ⟨?_, fun _ _ => .int _, rfl⟩
      simp only [Bool.and_eq_true, decide_eq_true_eq] at h
      exact ⟨h.1.1, h.1.2, h.2⟩
    · cases e
/-! ### comparisons -/
theorem ok_eqD : OpOk C .fr (rEqD C.K) (fun a b => if a.plain 64 && b.plain 64 then some (.bl (a.eqv b)) else none) := by
  intro F L H S x y a b d Q k px py e q
  dsimp only at e
  split at e
  · rename_i h
    simp only [Bool.and_eq_true] at h
    cases e
    obtain ⟨h1, h2⟩ := px.shaped k.sub h.1
    obtain ⟨h3, h4⟩ := py.shaped k.sub h.2
    refine ⟨_, _, h1, h3, h2, h4, ?_⟩
    rw [pd_eqv h.1 h.2]
    exact q F L H _ (Ext.refl _ _ _) k (Vok.re rfl (.bl _))
  · cases e
theorem ok_neD : OpOk C .fr (rNeD C.K) (fun a b => if a.plain 64 && b.plain 64 then some (.bl (!a.eqv b)) else none) := by
  intro F L H S x y a b d Q k px py e q
  dsimp only at e
  split at e
  · rename_i h
    simp only [Bool.and_eq_true] at h
    cases e
    obtain ⟨h1, h2⟩ := px.shaped k.sub h.1
    obtain ⟨h3, h4⟩ := py.shaped k.sub h.2
    refine ⟨_, _, h1, h3, h2, h4, ?_⟩
    rw [pd_eqv h.1 h.2]
    exact q F L H _ (Ext.refl _ _ _) k (Vok.re rfl (.bl _))
  · cases e
theorem any_pds {n m : Nat} {x : D} (h : D.plain n x = true) : ∀ {ys : List D}, D.plains m ys = true → ((D.pds ys).any fun z => PyData.eqv z x.pd) = ys.any fun y => y.eqv x
  | [], _ => rfl
  | y :: ys, h' => by
    simp only [D.plains, Bool.and_eq_true] at h'
    simp only [D.pds, List.any_cons]
    rw [pd_eqv h'.1 h, any_pds h h'.2]
theorem in_list {F : Hp} {L : List Addr} {H : Hp} {S : Sto} {x y : V} {a : D} {ys : List D} (k : Ok C F L H S) (px : Pk C F L H x a) (py : Pk C F L H y (.lst ys)) (h : a.plain 63 = true) (h' : D.plains 63 ys = true) :
    Dp C.K H x a.pd ∧ Dp C.K H y (.list (D.pds ys)) ∧ SeqAt.shaped a.pd = true ∧ SeqAt.shaped (.list (D.pds ys)) = true := by
  obtain ⟨h1, h2⟩ := px.shaped k.sub (D.plain_mono (by decide) h)
  have hy : D.plain 64 (.lst ys) = true := by simpa [D.plain] using h'
  obtain ⟨h3, h4⟩ := py.shaped k.sub hy
  simp only [D.pd] at h3 h4
  exact ⟨h1, h3, h2, h4⟩
theorem ok_inD : OpOk C .fr (rInD C.K) (fun a b => match b with | .lst ys => if a.plain 63 && D.plains 63 ys then some (.bl (ys.any fun y => y.eqv a)) else none | _ => none) := by
  intro F L H S x y a b d Q k px py e q
  dsimp only at e
  split at e
  · split at e
    · rename_i h
      simp only [Bool.and_eq_true] at h
      cases e
      obtain ⟨h1, h2, h3, h4⟩ := in_list k px py h.1 h.2
      refine ⟨_, _, h1, h2, h3, h4, ?_⟩
      rw [any_pds h.1 h.2]
      exact q F L H _ (Ext.refl _ _ _) k (Vok.re rfl (.bl _))
    · cases e
  · cases e
theorem ok_ninD : OpOk C .fr (rNotInD C.K) (fun a b => match b with | .lst ys => if a.plain 63 && D.plains 63 ys then some (.bl (!(ys.any fun y => y.eqv a))) else none | _ => none) := by
  intro F L H S x y a b d Q k px py e q
  dsimp only at e
  split at e
  · split at e
    · rename_i h
      simp only [Bool.and_eq_true] at h
      cases e
      obtain ⟨h1, h2, h3, h4⟩ := in_list k px py h.1 h.2
      refine ⟨_, _, h1, h2, h3, h4, ?_⟩
      rw [any_pds h.1 h.2]
      exact q F L H _ (Ext.refl _ _ _) k (Vok.re rfl (.bl _))
    · cases e
  · cases e
theorem flat_rep {F : Hp} {L : List Addr} {v : V} {d : D} (r : Rep C F L v d) (h : d.flat = true) : flatV v = true := by
  cases r <;> simp_all [D.flat, flatV]
theorem flat_eq {F : Hp} {L : List Addr} {F' : Hp} {L' : List Addr} {v w : V} {d e : D} (r : Rep C F L v d) (h : d.flat = true) (r' : Rep C F' L' w e) (h' : e.flat = true) : eqV v w = d.eqv e := by
  cases r <;> (first | (simp [D.flat] at h; done) | cases r') <;> (first | (simp [D.flat] at h'; done) | simp [eqV, D.eqv])
theorem flats {F : Hp} {L : List Addr} : ∀ {vs : List V} {ds : List D}, RepAll C F L vs ds → ds.all D.flat = true → vs.all flatV = true
  | _, _, .nil, _ => rfl
  | _, _, .cons r t, h => by
    simp only [List.all_cons, Bool.and_eq_true] at h ⊢
    exact ⟨flat_rep r h.1, flats t h.2⟩
theorem inV_eq {F : Hp} {L : List Addr} {x : V} {a : D} (r : Rep C F L x a) (h : a.flat = true) : ∀ {vs : List V} {ds : List D}, RepAll C F L vs ds → ds.all D.flat = true → inV x vs = ds.any fun y => y.eqv a
  | _, _, .nil, _ => rfl
  | _, _, .cons r' t, h' => by
    simp only [List.all_cons, Bool.and_eq_true] at h'
    have ih := inV_eq r h t h'.2
    unfold inV at ih ⊢
    simp only [List.any_cons]
    rw [flat_eq r' h'.1 r h, ih]
theorem Pk.flat {F : Hp} {L : List Addr} {H : Hp} {v : V} {d : D} (x : Pk C F L H v d) (h : d.flat = true) : Rep C F L v d := by
  cases x with
  | rep r => exact r
  | lst _ _ _ _ => simp [D.flat] at h
  | dic _ _ _ _ => simp [D.flat] at h
theorem ok_inT (neg : Bool) : OpOk C .fr (rIn C.K neg) (fun a b => match b with | .tup ys => if a.flat && ys.all D.flat then some (.bl (if neg then !(ys.any fun y => y.eqv a) else ys.any fun y => y.eqv a)) else none | _ => none) := by
  intro F L H S x y a b d Q k px py e q
  dsimp only at e
  split at e
  · split at e
    · rename_i h
      simp only [Bool.and_eq_true] at h
      cases e
      obtain ⟨p, vs, rfl, h1, z1, r1, _⟩ := py.tup k.sub
      refine ⟨p, vs, rfl, .inr h1, flat_rep (px.flat h.1) h.1, flats r1 h.2, ?_⟩
      rw [inV_eq (px.flat h.1) h.1 r1 h.2]
      exact q F L H _ (Ext.refl _ _ _) k (Vok.re rfl (.bl _))
    · cases e
  · cases e
def cmpOf : CO → CmpOp
  | .eq => .Eq | .ne => .NotEq | .lt => .Lt | .le => .LtE | .gt => .Gt | .ge => .GtE | .in_ => .In | .nin => .NotIn
theorem cmp_ok (o : CO) (hK : X.K = C.K) (hu : X.A.units + 65 < cLine) : ∃ r, OpR X (compareOp (cmpOf o)) r ∧ OpOk C .fr r (fun a b => (dCmp o a b).map .bl) := by
  have hu0 : X.A.units + 64 < cLine := by omega
  cases o with
  | eq =>
    refine ⟨_, op_eqD hu0, ?_⟩
    rw [hK]
    exact OpOk.cong ok_eqD fun a b d e => by simp only [dCmp] at e; split at e <;> simp_all
  | ne =>
    refine ⟨_, op_neD hu0, ?_⟩
    rw [hK]
    exact OpOk.cong ok_neD fun a b d e => by simp only [dCmp] at e; split at e <;> simp_all
  | lt => exact ⟨_, op_lt.or op_lt_str, OpOk.cong (ok_IB.or ok_SB) fun a b d e => by cases a <;> cases b <;> simp_all [dCmp, fI, fS]⟩
  | le => exact ⟨_, op_le.or op_le_str, OpOk.cong (ok_IB.or ok_SB) fun a b d e => by cases a <;> cases b <;> simp_all [dCmp, fI, fS]⟩
  | gt => exact ⟨_, op_gt.or op_gt_str, OpOk.cong (ok_IB.or ok_SB) fun a b d e => by cases a <;> cases b <;> simp_all [dCmp, fI, fS]⟩
  | ge => exact ⟨_, op_ge.or op_ge_str, OpOk.cong (ok_IB.or ok_SB) fun a b d e => by cases a <;> cases b <;> simp_all [dCmp, fI, fS]⟩
  | in_ =>
    refine ⟨_, op_in_str.or ((op_inD hu).or op_in_seq), ?_⟩
    rw [hK]
    refine OpOk.cong (ok_SB.or (ok_inD.or (ok_inT false))) fun a b d e => ?_
    cases b with
    | lst ys =>
      have e' : (if a.plain 63 && D.plains 63 ys then some (.bl (ys.any fun y => y.eqv a)) else none) = some d := by
        have : dCmp .in_ a (.lst ys) = if a.plain 63 && D.plains 63 ys then some (ys.any fun y => y.eqv a) else none := by cases a <;> rfl
        rw [this] at e; split at e <;> simp_all
      cases a <;> simp_all [fS]
    | tup ys =>
      have e' : (if a.flat && ys.all D.flat then some (.bl (ys.any fun y => y.eqv a)) else none) = some d := by
        have : dCmp .in_ a (.tup ys) = if a.flat && ys.all D.flat then some (ys.any fun y => y.eqv a) else none := by cases a <;> rfl
        rw [this] at e; split at e <;> simp_all
      cases a <;> simp_all [fS]
    | _ => cases a <;> simp_all [dCmp, fS]
  | nin =>
    refine ⟨_, op_notIn_str.or ((op_notInD hu).or op_notIn_seq), ?_⟩
    rw [hK]
    refine OpOk.cong (ok_SB.or (ok_ninD.or (ok_inT true))) fun a b d e => ?_
    cases b with
    | lst ys =>
      have e' : (if a.plain 63 && D.plains 63 ys then some (.bl (!(ys.any fun y => y.eqv a))) else none) = some d := by
        have : dCmp .nin a (.lst ys) = if a.plain 63 && D.plains 63 ys then some (!(ys.any fun y => y.eqv a)) else none := by cases a <;> rfl
        rw [this] at e; split at e <;> simp_all
      cases a <;> simp_all [fS]
    | tup ys =>
      have e' : (if a.flat && ys.all D.flat then some (.bl (!(ys.any fun y => y.eqv a))) else none) = some d := by
        have : dCmp .nin a (.tup ys) = if a.flat && ys.all D.flat then some (!(ys.any fun y => y.eqv a)) else none := by cases a <;> rfl
        rw [this] at e; split at e <;> simp_all
      cases a <;> simp_all [fS]
    | _ => cases a <;> simp_all [dCmp, fS]
end
end MP

/-! MP: rules of expressions. -/
namespace MP
open PySem PySem.Spec PyProof.Rows L2
section
variable {C : Cn} {W : WX} {X : Cx} {lv : Lv} {a b c : Expr} {pos : Pos} {ma mb mc : Env' → Sto → R D}

theorem m_neg (ha : PE X a (tE C W .pk ma)) : PE X (.UnaryOp .USub a pos) (tE C W .fr fun ρ s => (ma ρ s).bind fun x s => match x with | .int i => .ok (.int (-i)) s | _ => .stuck) := by
  refine PE.imp (pe_un un_neg ha) fun σ H Q ⟨F, L, S, ρ, k, en, q⟩ => ⟨F, L, S, ρ, k, en, q.bind.imp fun F1 L1 H1 S1 x e1 k1 q1 v1 r1 => ?_⟩
  split at q1
  · exact ⟨_, r1.int, q1.now k1 _ (Vok.re rfl (.int _))⟩
  · exact False.elim q1
theorem m_isN {j : Nat} {p2 : Pos} (ha : PE X a (tE C W .pk ma)) : PE X (.Compare a [.Is] [.Constant .none j p2] pos) (tE C W .fr fun ρ s => (ma ρ s).bind fun x s => .ok (.bl (isNb false x)) s) := by
  refine PE.imp (pe_cmp (pc_isN ha)) fun σ H Q ⟨F, L, S, ρ, k, en, q⟩ => ⟨F, L, S, ρ, k, en, q.bind.imp fun F1 L1 H1 S1 x e1 k1 q1 v1 r1 => ?_⟩
  show Q (.bl (decide (v1 = .non))) H1
  rw [Pk.nonI v1 x r1]
  exact q1.now k1 _ (Vok.re rfl (.bl _))
theorem m_notN {j : Nat} {p2 : Pos} (ha : PE X a (tE C W .pk ma)) : PE X (.Compare a [.IsNot] [.Constant .none j p2] pos) (tE C W .fr fun ρ s => (ma ρ s).bind fun x s => .ok (.bl (isNb true x)) s) := by
  refine PE.imp (pe_cmp (pc_notN ha)) fun σ H Q ⟨F, L, S, ρ, k, en, q⟩ => ⟨F, L, S, ρ, k, en, q.bind.imp fun F1 L1 H1 S1 x e1 k1 q1 v1 r1 => ?_⟩
  show Q (.bl (!decide (v1 = .non))) H1
  rw [Pk.nonI v1 x r1, isNb_not]
  exact q1.now k1 _ (Vok.re rfl (.bl _))
/-! ### truth -/
theorem tru_pk {F : Hp} {L : List Addr} {H : Hp} {S : Sto} {v : V} {d : D} {t : Bool} (k : Ok C F L H S) (x : Pk C F L H v d) (h : d.truth = some t) : TruV C.K v H t := by
  cases d with
  | non => rw [x.non]; simp [D.truth] at h; simp [TruV, h]
  | bl b => rw [x.bl]; simp [D.truth] at h; simp [TruV, h]
  | int i => rw [x.int]; simp [D.truth] at h; simp [TruV, ← h]
  | str z =>
    rw [x.str.1]
    simp only [D.truth, Option.some.injEq] at h
    exact ⟨sOk_len x.str.2, h.symm⟩
  | tup ds =>
    obtain ⟨a, vs, rfl, h1, _, r, _⟩ := x.tup k.sub
    simp only [D.truth, Option.some.injEq] at h
    refine .inr (.inl ⟨vs, h1, ?_⟩)
    rw [← h]
    cases r <;> rfl
  | lst ds =>
    obtain ⟨a, vs, rfl, h1, _, r⟩ := x.list k.sub
    simp only [D.truth, Option.some.injEq] at h
    refine .inl ⟨vs, SqL.of h1, ?_⟩
    rw [← h]
    cases r <;> rfl
  | dic ds =>
    obtain ⟨a, vs, rfl, h1, _, r⟩ := x.dict k.sub
    simp only [D.truth, Option.some.injEq] at h
    refine .inr (.inr ⟨vs, h1, ?_⟩)
    rw [← h]
    cases r <;> rfl
  | prg _ _ _ => simp [D.truth] at h
  | ref _ => simp [D.truth] at h
  | scr _ => simp [D.truth] at h
theorem tru_at {σ : Sg} {F : Hp} {L : List Addr} {H : Hp} {S : Sto} {v : V} {d : D} {β : Type} {f : Bool → Sto → R β} {P : Hp → List Addr → Hp → Sto → β → Prop} (k : Ok C F L H S) (x : Pk C F L H v d) (q : Rn C W σ F L H ((R.of d.truth S).bind f) P) : ∃ t, TruV C.K v H t ∧ Rn C W σ F L H (f t S) P := by
  obtain ⟨t, h, q⟩ := q.bind.of
  exact ⟨t, tru_pk k x h, q.now k⟩
theorem m_and {rest : List Expr} (hK : X.K = C.K) (ha : PE X a (tE C W lv ma)) (hb : PE X (.BoolOp .And (b :: rest) pos) (tE C W lv mb)) :
    PE X (.BoolOp .And (a :: b :: rest) pos) (tE C W lv fun ρ s => (ma ρ s).bind fun x s => (R.of x.truth s).bind fun t s => if t then mb ρ s else .ok x s) := by
  refine PE.imp (pe_andT ha hb) fun σ H Q ⟨F, L, S, ρ, k, en, q⟩ => ⟨F, L, S, ρ, k, en, q.bind.imp fun F1 L1 H1 S1 x e1 k1 q1 v1 r1 => ?_⟩
  obtain ⟨t, h, q1⟩ := tru_at k1 r1.pk q1
  refine ⟨t, by rw [hK]; exact h, ?_⟩
  cases t with
  | true => exact iteT ⟨F1, L1, S1, ρ, k1, en.ext e1, q1.imp fun F' L' H' S' d e2 k2 p v r => p v (r.from fun a h => e1.none_of h)⟩
  | false => exact iteF (q1.now k1 _ r1)
theorem m_or {rest : List Expr} (hK : X.K = C.K) (ha : PE X a (tE C W lv ma)) (hb : PE X (.BoolOp .Or (b :: rest) pos) (tE C W lv mb)) :
    PE X (.BoolOp .Or (a :: b :: rest) pos) (tE C W lv fun ρ s => (ma ρ s).bind fun x s => (R.of x.truth s).bind fun t s => if t then .ok x s else mb ρ s) := by
  refine PE.imp (pe_orT ha hb) fun σ H Q ⟨F, L, S, ρ, k, en, q⟩ => ⟨F, L, S, ρ, k, en, q.bind.imp fun F1 L1 H1 S1 x e1 k1 q1 v1 r1 => ?_⟩
  obtain ⟨t, h, q1⟩ := tru_at k1 r1.pk q1
  refine ⟨t, by rw [hK]; exact h, ?_⟩
  cases t with
  | true => exact iteT (q1.now k1 _ r1)
  | false => exact iteF ⟨F1, L1, S1, ρ, k1, en.ext e1, q1.imp fun F' L' H' S' d e2 k2 p v r => p v (r.from fun a h => e1.none_of h)⟩
theorem m_not (hK : X.K = C.K) (ha : PE X a (tE C W .pk ma)) : PE X (.UnaryOp .Not a pos) (tE C W .fr fun ρ s => (ma ρ s).bind fun x s => R.of (dNot x) s) := by
  refine PE.imp (pe_notT ha) fun σ H Q ⟨F, L, S, ρ, k, en, q⟩ => ⟨F, L, S, ρ, k, en, q.bind.imp fun F1 L1 H1 S1 x e1 k1 q1 v1 r1 => ?_⟩
  obtain ⟨d, h, q1⟩ := q1.of
  unfold dNot at h
  cases ht : x.truth with
  | none => rw [ht] at h; cases h
  | some t =>
    rw [ht] at h
    cases h
    exact ⟨t, by rw [hK]; exact tru_pk k1 r1 ht, q1.now k1 _ (Vok.re rfl (.bl _))⟩
/-! ### tests -/
theorem pt_cong {e : Expr} {m m' : Env' → Sto → R Bool} (p : PT X e (tT C W m)) (h : ∀ ρ s, m' ρ s = m ρ s) : PT X e (tT C W m') :=
  PT.imp p fun σ H Q ⟨F, L, S, ρ, k, en, q⟩ => ⟨F, L, S, ρ, k, en, by rw [← h]; exact q⟩
/-- a test by the value's truth -/
def tst (m : Env' → Sto → R D) : Env' → Sto → R Bool := fun ρ s => (m ρ s).bind fun x s => R.of x.truth s
theorem m_test (hK : X.K = C.K) (ha : PE X a (tE C W .pk ma)) (he : ∀ whole, isTrue a X.env whole = (do let v ← whole; standAt a.pos; holding [v] (truthy v))) : PT X a (tT C W (tst ma)) := by
  refine PT.imp (pt_truth ha he) fun σ H Q ⟨F, L, S, ρ, k, en, q⟩ => ⟨F, L, S, ρ, k, en, q.bind.imp fun F1 L1 H1 S1 x e1 k1 q1 v1 r1 => ?_⟩
  obtain ⟨t, h, q1⟩ := q1.of
  exact ⟨t, by rw [hK]; exact tru_pk k1 r1 h, q1.now k1⟩
theorem pw_imp {e : Expr} {t t' : TT} (h : PW X e t) (f : ∀ σ H Q, t' σ H Q → t σ H Q) : PW X e t' := ⟨fun whole pins s σ H Q I q => h.run whole pins s σ H Q I (f σ H Q q)⟩
theorem tT.and {m n : Env' → Sto → R Bool} {σ : Sg} {H : Hp} {Q : Bool → Hp → Prop} (h : tT C W (fun ρ s => (m ρ s).bind fun t s => if t then n ρ s else .ok false s) σ H Q) : tAnd (tT C W m) (tT C W n) σ H Q := by
  obtain ⟨F, L, S, ρ, k, en, q⟩ := h
  refine ⟨F, L, S, ρ, k, en, q.bind.imp fun F1 L1 H1 S1 t e1 k1 q1 => ?_⟩
  cases t with
  | true => exact iteT ⟨F1, L1, S1, ρ, k1, en.ext e1, q1⟩
  | false => exact iteF (q1.now k1)
theorem tT.or {m n : Env' → Sto → R Bool} {σ : Sg} {H : Hp} {Q : Bool → Hp → Prop} (h : tT C W (fun ρ s => (m ρ s).bind fun t s => if t then .ok true s else n ρ s) σ H Q) : tOr (tT C W m) (tT C W n) σ H Q := by
  obtain ⟨F, L, S, ρ, k, en, q⟩ := h
  refine ⟨F, L, S, ρ, k, en, q.bind.imp fun F1 L1 H1 S1 t e1 k1 q1 => ?_⟩
  cases t with
  | true => exact iteT (q1.now k1)
  | false => exact iteF ⟨F1, L1, S1, ρ, k1, en.ext e1, q1⟩
theorem m_tnot {m : Env' → Sto → R Bool} (ha : PT X a (tT C W m)) : PT X (.UnaryOp .Not a pos) (tT C W fun ρ s => (m ρ s).bind fun t s => .ok (!t) s) := by
  refine PT.imp (pt_not ha) fun σ H Q ⟨F, L, S, ρ, k, en, q⟩ => ⟨F, L, S, ρ, k, en, q.bind.imp fun F1 L1 H1 S1 t e1 k1 q1 => ?_⟩
  exact q1.now k1
theorem m_tcmp {op : CmpOp} {r : R2} {f : D → D → Option Bool} (ho : OpR X (compareOp op) r) (hm : behindInMarks op b = false) (hf : OpOk C .fr r (fun x y => (f x y).map .bl)) (ha : PE X a (tE C W .pk ma)) (hb : PE X b (tE C W .pk mb)) :
    PT X (.Compare a [op] [b] pos) (tT C W fun ρ s => (ma ρ s).bind fun x s => (mb ρ s).bind fun y s => R.of (f x y) s) := by
  refine PT.imp (pt_cmpR ho ha hb hm) fun σ H Q ⟨F, L, S, ρ, k, en, q⟩ => ⟨F, L, S, ρ, k, en, q.bind.imp fun F1 L1 H1 S1 x e1 k1 q1 v1 r1 => ?_⟩
  refine ⟨F1, L1, S1, ρ, k1, en.ext e1, q1.bind.imp fun F2 L2 H2 S2 y e2 k2 q2 v2 r2 => ?_⟩
  obtain ⟨t, ht, q2⟩ := q2.of
  refine hf _ _ _ _ _ _ _ _ (.bl t) _ k2 (Pk.ext r1 e2) r2 (by show Option.map D.bl (f x y) = _; rw [ht]; rfl) fun F' L' H' v e k' r => ?_
  have r' : Rep C F' L' v (.bl t) := by simpa [Vok, isFr] using r
  cases r'
  exact ⟨t, rfl, q2 _ _ _ e k'⟩
theorem m_chain {op op' : CmpOp} {r r' : R2} {f g : D → D → Option Bool} (ho : OpR X (compareOp op) r) (hf : OpOk C .fr r (fun x y => (f x y).map .bl)) (ho' : OpR X (compareOp op') r') (hg : OpOk C .fr r' (fun x y => (g x y).map .bl))
    (hm : lastMarks [op, op'] [b, c] = false) (ha : PE X a (tE C W .pk ma)) (hb : PE X b (tE C W .pk mb)) (hc : PE X c (tE C W .pk mc)) :
    PE X (.Compare a [op, op'] [b, c] pos) (tE C W .fr fun ρ s => (ma ρ s).bind fun x s => (mb ρ s).bind fun y s => (R.of (f x y) s).bind fun t s => if t then (mc ρ s).bind fun z s => R.of ((g y z).map .bl) s else .ok (.bl false) s) := by
  refine PE.imp (pe_chain ho ho' ha hb hc hm) fun σ H Q ⟨F, L, S, ρ, k, en, q⟩ => ⟨F, L, S, ρ, k, en, q.bind.imp fun F1 L1 H1 S1 x e1 k1 q1 v1 r1 => ?_⟩
  refine ⟨F1, L1, S1, ρ, k1, en.ext e1, q1.bind.imp fun F2 L2 H2 S2 y e2 k2 q2 v2 r2 => ?_⟩
  obtain ⟨t, ht, q2⟩ := q2.bind.of
  have q2 := q2.now k2
  refine hf _ _ _ _ _ _ _ _ (.bl t) _ k2 (Pk.ext r1 e2) r2 (by show Option.map D.bl (f x y) = _; rw [ht]; rfl) fun F' L' H' v e k' r => ?_
  have r' : Rep C F' L' v (.bl t) := by simpa [Vok, isFr] using r
  cases r'
  refine ⟨t, rfl, ?_⟩
  cases t with
  | false => exact iteF (q2 _ _ _ e k' _ (Vok.re rfl (.bl _)))
  | true =>
    rw [if_pos rfl] at q2
    refine iteT ⟨F', L', S2, ρ, k', ((en.ext e1).ext e2).ext e, (q2.start e).bind.imp fun F3 L3 H3 S3 z e3 k3 q4 v3 r3 => ?_⟩
    obtain ⟨d, hd, q4⟩ := q4.of
    exact hg _ _ _ _ _ _ _ _ _ _ k3 ((Pk.ext r2 e).ext e3) r3 hd fun F4 L4 H4 v e4 k4 r4 => q4 _ _ _ e4 k4 v (r4.from fun a h => ((e1.trans e2).trans (e.trans e3)).none_of h)
theorem m_ite {m : Env' → Sto → R Bool} (hc : PT X c (tT C W m)) (ha : PE X a (tE C W lv ma)) (hb : PE X b (tE C W lv mb)) : PE X (.IfExp c a b pos) (tE C W lv fun ρ s => (m ρ s).bind fun t s => if t then ma ρ s else mb ρ s) := by
  refine PE.imp (pe_ifExp hc ha hb) fun σ H Q ⟨F, L, S, ρ, k, en, q⟩ => ⟨F, L, S, ρ, k, en, q.bind.imp fun F1 L1 H1 S1 t e1 k1 q1 => ?_⟩
  cases t with
  | true => exact iteT ⟨F1, L1, S1, ρ, k1, en.ext e1, Rn.imp q1 fun F' L' H' S' d e2 k2 p v r => p v (r.from fun a h => e1.none_of h)⟩
  | false => exact iteF ⟨F1, L1, S1, ρ, k1, en.ext e1, Rn.imp q1 fun F' L' H' S' d e2 k2 p v r => p v (r.from fun a h => e1.none_of h)⟩
/-! ### arguments, displays -/
variable {es : List Expr} {ms : Env' → Sto → R (List D)}
theorem m_anil : PA X [] (tA C W fun _ s => .ok [] s) := PA.imp pa_nil fun σ H Q ⟨F, L, S, ρ, k, en, q⟩ => q.now k [] .nil
theorem m_acons (hs : starEach (a :: es) X.env = (false, eval a X.env) :: starEach es X.env) (ha : PE X a (tE C W .rep ma)) (he : PA X es (tA C W ms)) :
    PA X (a :: es) (tA C W fun ρ s => (ma ρ s).bind fun d s => (ms ρ s).bind fun ds s => .ok (d :: ds) s) := by
  refine PA.imp (pa_cons ha he hs) fun σ H Q ⟨F, L, S, ρ, k, en, q⟩ => ⟨F, L, S, ρ, k, en, q.bind.imp fun F1 L1 H1 S1 x e1 k1 q1 v1 r1 => ?_⟩
  have r1 : Rep C F1 L1 v1 x := r1
  exact ⟨F1, L1, S1, ρ, k1, en.ext e1, q1.bind.imp fun F2 L2 H2 S2 ds e2 k2 q2 vs rs => q2.now k2 _ (.cons (r1.up e2.ff e2.ll) rs)⟩
theorem m_astar {sp : Pos} (hK : X.K = C.K) (ha : PE X a (tE C W .pk ma)) (he : PA X es (tA C W ms)) :
    PA X (.Starred a sp :: es) (tA C W fun ρ s => (ma ρ s).bind fun x s => (R.of (seqItems x) s).bind fun xs s => (ms ρ s).bind fun ds s => .ok (xs ++ ds) s) := by
  refine PA.imp (StX.pa_star ha he) fun σ H Q ⟨F, L, S, ρ, k, en, q⟩ => ⟨F, L, S, ρ, k, en, q.bind.imp fun F1 L1 H1 S1 x e1 k1 q1 v1 r1 => ?_⟩
  obtain ⟨xs, hx, q1⟩ := q1.bind.of
  have q1 := q1.now k1
  have key : ∃ p vs, v1 = V.ref p ∧ (SqT X.K H1 p vs ∨ SqL X.K H1 p vs) ∧ RepAll C F1 L1 vs xs := by
    cases x <;> simp only [seqItems, Option.some.injEq] at hx <;> (first | cases hx | skip)
    · obtain ⟨p, vs, h1, h2, _, r, _⟩ := Pk.tup k1.sub r1
      exact ⟨p, vs, h1, .inl (by rw [hK]; exact h2), r⟩
    · obtain ⟨p, vs, h1, h2, _, r⟩ := Pk.list k1.sub r1
      exact ⟨p, vs, h1, .inr (SqL.of h2), r⟩
  obtain ⟨p, vs, h1, h2, r⟩ := key
  exact ⟨p, vs, h1, h2, F1, L1, S1, ρ, k1, en.ext e1, q1.bind.imp fun F2 L2 H2 S2 ds e2 k2 q2 ws rs => q2.now k2 _ ((r.up e2.ff e2.ll).append rs)⟩
theorem m_tup {x1 : Nat} (he : PA X es (tA C W ms)) : PE X (.Tuple es x1 pos) (tE C W .fr fun ρ s => (ms ρ s).bind fun ds s => R.of (mkTup ds) s) := by
  refine PE.imp (pe_tup he) fun σ H Q ⟨F, L, S, ρ, k, en, q⟩ => ⟨F, L, S, ρ, k, en, q.bind.imp fun F1 L1 H1 S1 ds e1 k1 q1 vs r => ?_⟩
  obtain ⟨d, hd, q1⟩ := q1.of
  obtain ⟨rfl, z⟩ := mkTup_some hd
  have z' : vs.length ≤ sizeLine := by rw [r.length]; exact z
  refine ⟨z', fun p n => ?_⟩
  obtain ⟨F', x1, x2, x3⟩ := new_tup k1 n z' r
  exact q1 _ _ _ x1 x2 _ (Vok.re rfl x3)
theorem m_lst (he : PA X es (tA C W ms)) : PE X (.List es pos) (tE C W .fr fun ρ s => (ms ρ s).bind fun ds s => R.of (mkLst ds) s) := by
  refine PE.imp (pe_lst he) fun σ H Q ⟨F, L, S, ρ, k, en, q⟩ => ⟨F, L, S, ρ, k, en, q.bind.imp fun F1 L1 H1 S1 ds e1 k1 q1 vs r => ?_⟩
  obtain ⟨d, hd, q1⟩ := q1.of
  obtain ⟨rfl, z⟩ := mkLst_some hd
  have z' : vs.length ≤ sizeLine := by rw [r.length]; exact z
  refine ⟨z', fun p n => ?_⟩
  obtain ⟨x1, x2, x3⟩ := new_lst k1 n z' r
  exact q1 _ _ _ x1 x2 _ (Vok.fr (x3.from fun a h => e1.none_of h))
/-! ### a new list as a cell -/
theorem m_cell (ha : PE X a (tE C W .fr ma)) : PE X a (tE C W .rep fun ρ s => (ma ρ s).bind newCell) := by
  refine PE.imp ha fun σ H Q ⟨F, L, S, ρ, k, en, q⟩ => ⟨F, L, S, ρ, k, en, ?_⟩
  dsimp only at q
  cases e : ma ρ S with
  | exc x s => rw [e] at q; exact q
  | stuck => rw [e] at q; exact q
  | ok d S' =>
    rw [e] at q
    cases d <;> (first | exact False.elim q | skip)
    rename_i xs
    intro F1 L1 H1 e1 k1 v r
    have r : Fr C F1 L1 H H1 v (.lst xs) := by simpa [Vok, isFr] using r
    cases r with
    | @lst p vs _ n h z f l rr =>
      have pre : L1 <+: L1 ++ [p] := List.prefix_append _ _
      refine q F1 (L1 ++ [p]) H1 ⟨e1.ff, e1.ll.trans pre, e1.keep, e1.there, e1.nF, fun b hb => ?_⟩ ⟨k1.sub, fun b hb => ?_, ?_, ?_, fun m c hc => ?_⟩ (.ref p) (.ref ?_)
      · rcases List.mem_append.mp hb with hb | hb
        · exact e1.nL b hb
        · rw [List.mem_singleton.mp hb]; exact .inr n
      · rcases List.mem_append.mp hb with hb | hb
        · exact k1.fl b hb
        · rw [List.mem_singleton.mp hb]; exact f
      · rw [List.nodup_append]
        exact ⟨k1.nd, by simp, fun b hb c hc => by rw [List.mem_singleton.mp hc]; rintro rfl; exact l hb⟩
      · simp [k1.len]
      · by_cases hm : m < S'.length
        · rw [List.getElem?_append_left hm] at hc
          obtain ⟨b, h1, h2⟩ := k1.cells m c hc
          exact ⟨b, pre_get pre h1, h2.up (Sub.refl _) pre rfl⟩
        · rw [List.getElem?_append_right (by omega)] at hc
          have h0 : m - S'.length = 0 := by
            cases hh : m - S'.length with
            | zero => rfl
            | succ j => rw [hh] at hc; simp at hc
          rw [h0] at hc
          cases hc
          have hm' : m = L1.length := by have := k1.len; omega
          exact ⟨p, by rw [hm', List.getElem?_append_right (Nat.le_refl _)]; simp, .lst h z (rr.up (Sub.refl _) pre)⟩
      · rw [← k1.len, List.getElem?_append_right (Nat.le_refl _)]; simp
end
end MP

/-! MP: subscripts, slices, calls. -/
namespace MP
open PySem PySem.Spec PyProof.Rows L2
section
variable {C : Cn} {W : WX} {X : Cx} {lv : Lv} {a b c : Expr} {pos : Pos} {ma mb mc : Env' → Sto → R D} {es : List Expr} {ms : Env' → Sto → R (List D)}
/-! ### items -/
theorem atI_rep {F : Hp} {L : List Addr} {vs : List V} {ds : List D} {i : Int} {d : D} (r : RepAll C F L vs ds) (h : atI ds i = some d) : ∃ v, atI vs i = some v ∧ Rep C F L v d := by
  unfold atI at h ⊢
  rw [← r.length] at h
  cases e : ixN vs.length i with
  | none => rw [e] at h; cases h
  | some j =>
    rw [e] at h
    exact r.get h
theorem ok_ix (hK : X.K = C.K) : OpOk C .rep (rIx X.K) dIdx0 := by
  intro F L H S x y a b d Q k px py e q
  unfold dIdx0 at e
  rw [hK]
  split at e
  · obtain ⟨p, vs, rfl, h1, _, r⟩ := px.list k.sub
    obtain ⟨v, h2, r2⟩ := atI_rep r e
    exact .inl ⟨p, vs, _, v, rfl, py.int, SqL.of h1, h2, q F L H _ (Ext.refl _ _ _) k r2⟩
  · obtain ⟨p, vs, rfl, h1, _, r, _⟩ := px.tup k.sub
    obtain ⟨v, h2, r2⟩ := atI_rep r e
    exact .inr (.inl ⟨p, vs, _, v, rfl, py.int, h1, h2, q F L H _ (Ext.refl _ _ _) k r2⟩)
  · rename_i z i
    cases e2 : atI z.cps.toList i with
    | none => rw [e2] at e; cases e
    | some cc =>
      rw [e2] at e
      obtain ⟨rfl, h⟩ := mkStr_some e
      exact .inr (.inr ⟨z, i, cc, px.str.1, py.int, sOk_len px.str.2, e2, q F L H _ (Ext.refl _ _ _) k (.str _ h)⟩)
  · cases e
theorem m_idx (hK : X.K = C.K) (hs : PlainIx b) (ha : PE X a (tE C W .pk ma)) (hb : PE X b (tE C W .pk mb)) :
    PE X (.Subscript a b pos) (tE C W .rep fun ρ s => (ma ρ s).bind fun x s => (mb ρ s).bind fun y s => R.of (dIdx0 x y) s) := by
  refine PE.imp (pe_ix ix_seq ha hb hs) fun σ H Q ⟨F, L, S, ρ, k, en, q⟩ => ⟨F, L, S, ρ, k, en, q.bind.imp fun F1 L1 H1 S1 x e1 k1 q1 v1 r1 => ?_⟩
  refine ⟨F1, L1, S1, ρ, k1, en.ext e1, q1.bind.imp fun F2 L2 H2 S2 y e2 k2 q2 v2 r2 => ?_⟩
  obtain ⟨d, hd, q2⟩ := q2.of
  exact ok_ix hK _ _ _ _ _ _ _ _ _ _ k2 (Pk.ext r1 e2) r2 hd fun F' L' H' v e k' r => q2 _ _ _ e k' v r
/-! ### slices -/
def tO (C : Cn) (W : WX) (m : Env' → Sto → R (Option Int)) : TO := fun σ H Q => ∃ F L S ρ, Ok C F L H S ∧ EnvOk C F L H ρ σ ∧
  Rn C W σ F L H (m ρ S) fun F' L' H' _ i => Q i H'
theorem PO.imp {e : Option Expr} {t t' : TO} (h : PO X e t) (f : ∀ σ H Q, t' σ H Q → t σ H Q) : PO X e t' := ⟨fun pins s σ H Q I q => h.run pins s σ H Q I (f σ H Q q)⟩
theorem m_onone : PO X none (tO C W fun _ s => .ok none s) := PO.imp po_none fun σ H Q ⟨F, L, S, ρ, k, en, q⟩ => q.now k
theorem asInt_some {d : D} {i : Int} (h : asInt d = some i) : d = .int i := by
  cases d <;> simp only [asInt, Option.some.injEq] at h <;> (first | cases h | skip)
  rfl
theorem m_osome (ha : PE X a (tE C W .pk ma)) : PO X (some a) (tO C W fun ρ s => (ma ρ s).bind fun d s => (R.of (asInt d) s).bind fun i s => .ok (some i) s) := by
  refine PO.imp (po_some ha) fun σ H Q ⟨F, L, S, ρ, k, en, q⟩ => ⟨F, L, S, ρ, k, en, q.bind.imp fun F1 L1 H1 S1 x e1 k1 q1 v1 r1 => ?_⟩
  obtain ⟨i, h, q⟩ := q1.bind.of
  cases asInt_some h
  exact ⟨_, Pk.int r1, (q.now k1).now k1⟩
theorem cut_rep {F : Hp} {L : List Addr} {vs : List V} {ds : List D} (r : RepAll C F L vs ds) (lo hi : Option Int) : RepAll C F L (cutV vs lo hi) (cut ds lo hi) := by
  unfold cutV cut
  rw [r.length]
  exact (r.drop _).take _
theorem cut_length {α : Type} (xs : List α) (lo hi : Option Int) : (cut xs lo hi).length ≤ xs.length := by
  unfold cut
  rw [List.length_take, List.length_drop]
  omega
theorem cut_all {α : Type} {xs : List α} {n : Nat} {l h : Option Int} (e : n = xs.length) (h1 : HT.sIx n 0 l = 0) (h2 : HT.sIx n n h = n) : cut xs l h = xs := by
  subst e
  unfold cut
  rw [h1, h2, List.drop_zero, Nat.sub_zero, List.take_length]
theorem m_slice {lo hi : Option Expr} {ml mh : Env' → Sto → R (Option Int)} {p2 : Pos} (hK : X.K = C.K) (ha : PE X a (tE C W .pk ma)) (hl : PO X lo (tO C W ml)) (hh : PO X hi (tO C W mh)) :
    PE X (.Subscript a (.Slice lo hi none p2) pos) (tE C W .fr fun ρ s => (ma ρ s).bind fun x s => (ml ρ s).bind fun l s => (mh ρ s).bind fun h s => R.of (dSlice x l h) s) := by
  refine PE.imp (pe_slice (sl_list.or (sl_tupA.or sl_str)) ha hl hh) fun σ H Q ⟨F, L, S, ρ, k, en, q⟩ => ⟨F, L, S, ρ, k, en, q.bind.imp fun F1 L1 H1 S1 x e1 k1 q1 v1 r1 => ?_⟩
  refine ⟨F1, L1, S1, ρ, k1, en.ext e1, q1.bind.imp fun F2 L2 H2 S2 l e2 k2 q2 => ?_⟩
  refine ⟨F2, L2, S2, ρ, k2, (en.ext e1).ext e2, q2.bind.imp fun F3 L3 H3 S3 h e3 k3 q3 => ?_⟩
  obtain ⟨d, hd, q3⟩ := q3.of
  have px := Pk.ext (Pk.ext r1 e2) e3
  have e0 := (e1.trans e2).trans e3
  cases x <;> simp only [dSlice, Option.some.injEq] at hd <;> (first | cases hd | skip)
  · obtain ⟨h1, h2⟩ := mkStr_some hd
    subst h1
    exact .inr (.inr ⟨_, px.str.1, sOk_len px.str.2, q3.now k3 _ (Vok.re rfl (.str _ h2))⟩)
  · obtain ⟨p, vs, rfl, h1, z, r, rr⟩ := px.tup k3.sub
    refine .inr (.inl ⟨p, vs, rfl, by rw [hK]; exact h1, fun hw => ?_, fun hw p n => ?_⟩)
    · rw [cut_all r.length hw.1 hw.2] at q3
      exact q3.now k3 _ (Vok.re rfl rr)
    · obtain ⟨F', x1, x2, x3⟩ := new_tup k3 n (Nat.le_trans (cutV_length _ _ _) z) (cut_rep r l h)
      exact q3 _ _ _ x1 x2 _ (Vok.re rfl x3)
  · obtain ⟨p, vs, rfl, h1, z, r⟩ := px.list k3.sub
    refine .inl ⟨p, vs, rfl, SqL.of h1, fun p n => ?_⟩
    obtain ⟨x1, x2, x3⟩ := new_lst k3 n (Nat.le_trans (cutV_length _ _ _) z) (cut_rep r l h)
    exact q3 _ _ _ x1 x2 _ (Vok.fr (x3.from fun a h => e0.none_of h))
/-! ### what a def promises -/
def lvOf (fr : Bool) : Lv := if fr then .fr else .rep
def spD (C : Cn) (n : Nat) (fr : Bool) (f : FS) : Sp := fun vs H Q E => vs.length = n ∧ ∃ F L S ds, Ok C F L H S ∧ RepAll C F L vs ds ∧
  Rn C (fun c d _ H' => E c d H') [] F L H (f ds S) fun F' L' H' _ d => ∀ v, Vok C F' L' H H' (lvOf fr) v d → Q v H'
theorem Rn.wish {W W' : WX} {σ σ' : Sg} {F : Hp} {L : List Addr} {H : Hp} {α : Type} {r : R α} {P : Hp → List Addr → Hp → Sto → α → Prop} (h : Rn C W σ F L H r P) (f : ∀ c d H', W c d σ H' → W' c d σ' H') : Rn C W' σ' F L H r P := by
  cases r with
  | ok a s => exact h
  | exc x s => exact fun F' L' H' dx e k o => f _ _ _ (h F' L' H' dx e k o)
  | stuck => exact h
/-- what is known of a def at a name -/
structure FnAt (C : Cn) (X : Cx) (x : Str) (n : Nat) (fr : Bool) (f : FS) : Prop where
  ex : ∃ (k : Nat) (a : Addr) (fd : FuncData) (ps : List Str), FnOk X.prog X.w X.K X.mg X.base (L2.CX X.prog X.w) k a fd ps (spD C n fr f) ∧ Room k X.A ∧ X.mg x = some (.ref a) ∧ PySem.W.keepIn X.K (.ref a) = true ∧ Binds X.K fd ps []
theorem m_call {x : Str} {p : Pos} {n : Nat} {fr : Bool} {f : FS} (tk : Takes X W) (hf : FnAt C X x n fr f) (hg : Gl X x) (hd : (x == ("__debug__" : Str)) = false) (hn : (a :: es).length = n)
    (he : starEach (a :: es) X.env = (false, eval a X.env) :: starEach es X.env) (hpl : (backTo pos (starEach es X.env)).any (·.1) = false) (hlen : ∀ ρ s ds s', ms ρ s = .ok ds s' → ds.length = n) (ha : PA X (a :: es) (tA C W ms)) :
    PE X (.Call (.Name x p) (a :: es) [] pos) (tE C W (lvOf fr) fun ρ s => (ms ρ s).bind fun ds s => f ds s) := by
  obtain ⟨k, ad, fd, ps, F0, hr, hm, hk, hb⟩ := hf.ex
  refine PE.imp (pe_callS F0 hr hg hm hk hb (fun σ => passAt tk σ) ha hd he hpl) fun σ H Q ⟨F, L, S, ρ, k, en, q⟩ => ?_
  have q' := q.bind
  refine ⟨F, L, S, ρ, k, en, ?_⟩
  cases e : ms ρ S with
  | exc x s => rw [e] at q'; exact q'
  | stuck => rw [e] at q'; exact q'
  | ok ds S' =>
    rw [e] at q'
    intro F1 L1 H1 e1 k1 vs r1
    refine ⟨by rw [r1.length]; exact hlen _ _ _ _ e, F1, L1, S', ds, k1, r1, ?_⟩
    exact ((q' _ _ _ e1 k1).wish fun c d H' w => w).imp fun F2 L2 H2 S2 d e2 k2 p v r => p v (r.from fun a h => e1.none_of h)
theorem m_call0 {x : Str} {p : Pos} {fr : Bool} {f : FS} (hf : FnAt C X x 0 fr f) (hg : Gl X x) (hd : (x == ("__debug__" : Str)) = false) :
    PE X (.Call (.Name x p) [] [] pos) (tE C W (lvOf fr) fun ρ s => match f [] s with | .ok d s => .ok d s | _ => .stuck) := by
  obtain ⟨k, ad, fd, ps, F0, hr, hm, hk, hb⟩ := hf.ex
  refine PE.imp (pe_call0 F0 hr hg hm hk hb .nil passL hd) fun σ H Q ⟨F, L, S, ρ, k, en, q⟩ => ?_
  refine ⟨rfl, F, L, S, [], k, .nil, ?_⟩
  dsimp only at q
  cases e : f [] S with
  | ok d s => rw [e] at q; exact q
  | exc x s => rw [e] at q; exact False.elim q
  | stuck => rw [e] at q; exact False.elim q
end
end MP

/-! MP: built-ins. -/
namespace MP
open PySem PySem.Spec PyProof.Rows L2
inductive PkAll (C : Cn) (F : Hp) (L : List Addr) (H : Hp) : List V → List D → Prop
  | nil : PkAll C F L H [] []
  | cons {v : V} {vs : List V} {d : D} {ds : List D} : Pk C F L H v d → PkAll C F L H vs ds → PkAll C F L H (v :: vs) (d :: ds)
def tP (C : Cn) (W : WX) (m : Env' → Sto → R (List D)) : TA := fun σ H Q => ∃ F L S ρ, Ok C F L H S ∧ EnvOk C F L H ρ σ ∧
  Rn C W σ F L H (m ρ S) fun F' L' H' _ ds => ∀ vs, PkAll C F' L' H' vs ds → Q vs H'
section
variable {C : Cn} {W : WX} {X : Cx} {lv : Lv} {a b c : Expr} {pos : Pos} {ma mb mc : Env' → Sto → R D} {es : List Expr} {ms : Env' → Sto → R (List D)}
theorem m_pnil : PA X [] (tP C W fun _ s => .ok [] s) := PA.imp pa_nil fun σ H Q ⟨F, L, S, ρ, k, en, q⟩ => q.now k [] .nil
theorem m_pcons (hs : starEach (a :: es) X.env = (false, eval a X.env) :: starEach es X.env) (ha : PE X a (tE C W .pk ma)) (he : PA X es (tP C W ms)) :
    PA X (a :: es) (tP C W fun ρ s => (ma ρ s).bind fun d s => (ms ρ s).bind fun ds s => .ok (d :: ds) s) := by
  refine PA.imp (pa_cons ha he hs) fun σ H Q ⟨F, L, S, ρ, k, en, q⟩ => ⟨F, L, S, ρ, k, en, q.bind.imp fun F1 L1 H1 S1 x e1 k1 q1 v1 r1 => ?_⟩
  exact ⟨F1, L1, S1, ρ, k1, en.ext e1, q1.bind.imp fun F2 L2 H2 S2 ds e2 k2 q2 vs rs => q2.now k2 _ (.cons (Pk.ext r1 e2) rs)⟩
/-- what a built-in gives, by trees -/
def CallOk (C : Cn) (lv : Lv) (r : List V → Hp → VK → Prop) (f : List D → Option D) : Prop := ∀ (F : Hp) (L : List Addr) (H : Hp) (S : Sto) (vs : List V) (ds : List D) (d : D) (Q : VK), Ok C F L H S → PkAll C F L H vs ds → f ds = some d →
  (∀ F' L' H' v, Ext F L H F' L' H' → Ok C F' L' H' S → Vok C F' L' H H' lv v d → Q v H') → r vs H Q
theorem CallOk.or {r r' : List V → Hp → VK → Prop} {f f' : List D → Option D} (h : CallOk C lv r f) (h' : CallOk C lv r' f') : CallOk C lv (fun x H Q => r x H Q ∨ r' x H Q) (fun a => (f a).or (f' a)) := by
  intro F L H S vs ds d Q k p e q
  dsimp only at e
  cases e1 : f ds with
  | some d1 =>
    rw [e1] at e
    simp only [Option.some_or, Option.some.injEq] at e
    subst e
    exact .inl (h F L H S vs ds _ Q k p e1 q)
  | none =>
    rw [e1, Option.none_or] at e
    exact .inr (h' F L H S vs ds _ Q k p e q)
theorem CallOk.cong {r : List V → Hp → VK → Prop} {f f' : List D → Option D} (h : CallOk C lv r f) (e : ∀ a d, f' a = some d → f a = some d) : CallOk C lv r f' := fun F L H S vs ds d Q k p z q => h F L H S vs ds d Q k p (e ds d z) q
theorem m_bltB {x : Str} {id : String} {p : Pos} {r : List V → Hp → VK → Prop} {f : List D → Option D} (hc : CallR X (.builtin id) r) (hf : CallOk C lv r f) (hg : Gl X x) (hm : X.mg x = none) (hv : bootBuiltins x = some (.builtin id)) (hn : x ≠ "__name__") (hd : (x == ("__debug__" : Str)) = false)
    (he : starEach (a :: es) X.env = (false, eval a X.env) :: starEach es X.env) (hpl : (backTo pos (starEach es X.env)).any (·.1) = false) (ha : PA X (a :: es) (tP C W ms)) :
    PE X (.Call (.Name x p) (a :: es) [] pos) (tE C W lv fun ρ s => (ms ρ s).bind fun ds s => R.of (f ds) s) := by
  refine PE.imp (pe_callB hc hg hm hv ha hn hd he hpl) fun σ H Q ⟨F, L, S, ρ, k, en, q⟩ => ⟨F, L, S, ρ, k, en, q.bind.imp fun F1 L1 H1 S1 ds e1 k1 q1 vs rs => ?_⟩
  obtain ⟨d, h, q1⟩ := q1.of
  exact hf _ _ _ _ _ _ _ _ k1 rs h fun F' L' H' v e k' r => q1 _ _ _ e k' v (r.from fun a h => e1.none_of h)
theorem m_bltT {x : Str} {id : String} {p : Pos} {r : List V → Hp → VK → Prop} {f : List D → Option D} (hc : CallR X (.type id) r) (hf : CallOk C lv r f) (hg : Gl X x) (hm : X.mg x = none) (hv : bootBuiltins x = some (.type id)) (hn : x ≠ "__name__") (hd : (x == ("__debug__" : Str)) = false)
    (he : starEach (a :: es) X.env = (false, eval a X.env) :: starEach es X.env) (hpl : (backTo pos (starEach es X.env)).any (·.1) = false) (ha : PA X (a :: es) (tP C W ms)) :
    PE X (.Call (.Name x p) (a :: es) [] pos) (tE C W lv fun ρ s => (ms ρ s).bind fun ds s => R.of (f ds) s) := by
  refine PE.imp (pe_callTy hc hg hm hv ha hn hd he hpl) fun σ H Q ⟨F, L, S, ρ, k, en, q⟩ => ⟨F, L, S, ρ, k, en, q.bind.imp fun F1 L1 H1 S1 ds e1 k1 q1 vs rs => ?_⟩
  obtain ⟨d, h, q1⟩ := q1.of
  exact hf _ _ _ _ _ _ _ _ k1 rs h fun F' L' H' v e k' r => q1 _ _ _ e k' v (r.from fun a h => e1.none_of h)
/-! ### the tables -/
def f1 (g : D → Option D) : List D → Option D
  | [d] => g d
  | _ => none
def f2 (g : D → D → Option D) : List D → Option D
  | [d, e] => g d e
  | _ => none
theorem call1 {r : List V → Hp → VK → Prop} {g : D → Option D} (h : ∀ (F : Hp) (L : List Addr) (H : Hp) (S : Sto) (v : V) (x d : D) (Q : VK), Ok C F L H S → Pk C F L H v x → g x = some d → (∀ F' L' H' v, Ext F L H F' L' H' → Ok C F' L' H' S → Vok C F' L' H H' lv v d → Q v H') → r [v] H Q) : CallOk C lv r (f1 g) := by
  intro F L H S vs ds d Q k p e q
  unfold f1 at e
  split at e
  · cases p with
    | cons p1 p2 => cases p2; exact h F L H S _ _ d Q k p1 e q
  · cases e
theorem call2 {r : List V → Hp → VK → Prop} {g : D → D → Option D} (h : ∀ (F : Hp) (L : List Addr) (H : Hp) (S : Sto) (v w : V) (x y d : D) (Q : VK), Ok C F L H S → Pk C F L H v x → Pk C F L H w y → g x y = some d → (∀ F' L' H' v, Ext F L H F' L' H' → Ok C F' L' H' S → Vok C F' L' H H' lv v d → Q v H') → r [v, w] H Q) : CallOk C lv r (f2 g) := by
  intro F L H S vs ds d Q k p e q
  unfold f2 at e
  split at e
  · cases p with
    | cons p1 p2 => cases p2 with | cons p2 p3 => cases p3; exact h F L H S _ _ _ _ d Q k p1 p2 e q
  · cases e
theorem dInts_rep {F : Hp} {L : List Addr} : ∀ {vs : List V} {ds : List D} {ns : List Int}, RepAll C F L vs ds → dInts ds = some ns → vs = ns.map V.int
  | _, _, ns, .nil, h => by simp [dInts] at h; subst h; rfl
  | _, _, ns, .cons r t, h => by
    cases r <;> simp [dInts] at h
    obtain ⟨l, h1, rfl⟩ := h
    rw [dInts_rep t h1]; rfl
theorem dBools_rep {F : Hp} {L : List Addr} : ∀ {vs : List V} {ds : List D} {ns : List Bool}, RepAll C F L vs ds → dBools ds = some ns → vs = ns.map V.bl
  | _, _, ns, .nil, h => by simp [dBools] at h; subst h; rfl
  | _, _, ns, .cons r t, h => by
    cases r <;> simp [dBools] at h
    obtain ⟨l, h1, rfl⟩ := h
    rw [dBools_rep t h1]; rfl
theorem dStrs_rep {F : Hp} {L : List Addr} : ∀ {vs : List V} {ds : List D} {ns : List Str}, RepAll C F L vs ds → dStrs ds = some ns → vs = ns.map V.str
  | _, _, ns, .nil, h => by simp [dStrs] at h; subst h; rfl
  | _, _, ns, .cons r t, h => by
    cases r <;> simp [dStrs] at h
    obtain ⟨l, h1, rfl⟩ := h
    rw [dStrs_rep t h1]; rfl
theorem Pk.scr {F : Hp} {L : List Addr} {H : Hp} {v : V} {ns : List Int} (x : Pk C F L H v (.scr ns)) (s : Sub F H) : ∃ a, v = .ref a ∧ SqL C.K H a (ns.map V.int) ∧ ns.length ≤ sizeLine := by
  cases x with
  | rep r => cases r with
    | scr h z => exact ⟨_, rfl, s.sqL h, z⟩
theorem ints_rep {F : Hp} {L : List Addr} : ∀ ns : List Int, RepAll C F L (ns.map V.int) (ns.map D.int)
  | [] => .nil
  | i :: is => .cons (.int i) (ints_rep is)
def gLen : D → Option D
  | .lst xs | .tup xs => some (.int xs.length)
  | .str x => some (.int x.length)
  | _ => none
theorem c_len (hK : X.K = C.K) : CallOk C .fr (fun xs H Q => ∃ x n, xs = [x] ∧ LenV X.K x H n ∧ Q (.int n) H) (f1 gLen) := by
  rw [hK]
  refine call1 fun F L H S v x d Q k p e q => ?_
  cases x <;> simp only [gLen, Option.some.injEq] at e <;> (first | cases e | skip)
  · exact ⟨_, _, rfl, by rw [p.str.1]; exact ⟨sOk_len p.str.2, rfl⟩, q F L H _ (Ext.refl _ _ _) k (Vok.re rfl (.int _))⟩
  · obtain ⟨a, vs, rfl, h1, _, r, _⟩ := p.tup k.sub
    exact ⟨_, _, rfl, .inr ⟨vs, h1, rfl⟩, by rw [r.length]; exact q F L H _ (Ext.refl _ _ _) k (Vok.re rfl (.int _))⟩
  · obtain ⟨a, vs, rfl, h1, _, r⟩ := p.list k.sub
    exact ⟨_, _, rfl, .inl ⟨vs, SqL.of h1, rfl⟩, by rw [r.length]; exact q F L H _ (Ext.refl _ _ _) k (Vok.re rfl (.int _))⟩
def gLenD : D → Option D
  | .dic kvs => some (.int kvs.length)
  | _ => none
theorem c_lenD : CallOk C .fr (fun xs H Q => ∃ (a : Addr) (kvs : List (Key × V)), xs = [.ref a] ∧ H a = some (.dK kvs) ∧ Q (.int kvs.length) H) (f1 gLenD) := by
  refine call1 fun F L H S v x d Q k p e q => ?_
  cases x <;> simp only [gLenD, Option.some.injEq] at e <;> (first | cases e | skip)
  obtain ⟨a, vs, rfl, h1, _, r⟩ := p.dict k.sub
  exact ⟨_, _, rfl, h1, by rw [r.length]; exact q F L H _ (Ext.refl _ _ _) k (Vok.re rfl (.int _))⟩
def gInt : D → Option D
  | .int i => some (.int i)
  | .bl b => some (.int (if b then 1 else 0))
  | _ => none
theorem c_int : CallOk C .fr (fun xs H Q => (∃ i, xs = [.int i] ∧ Q (.int i) H) ∨ ∃ k, xs = [.bl k] ∧ Q (.int (if k then 1 else 0)) H) (f1 gInt) := by
  refine call1 fun F L H S v x d Q k p e q => ?_
  cases x <;> simp only [gInt, Option.some.injEq] at e <;> (first | cases e | skip)
  · exact .inr ⟨_, by rw [p.bl], q F L H _ (Ext.refl _ _ _) k (Vok.re rfl (.int _))⟩
  · exact .inl ⟨_, by rw [p.int], q F L H _ (Ext.refl _ _ _) k (Vok.re rfl (.int _))⟩
def gIntS : D → Option D
  | .str x => if x.length ≤ 640 then (PySem.intText? x).map .int else none
  | _ => none
theorem c_intS : CallOk C .fr (fun xs H Q => ∃ a n, xs = [.str a] ∧ PySem.intText? a = some n ∧ a.length ≤ 640 ∧ Q (.int n) H) (f1 gIntS) := by
  refine call1 fun F L H S v x d Q k p e q => ?_
  cases x <;> simp only [gIntS] at e <;> (first | cases e | skip)
  split at e
  · rename_i z h
    cases e2 : PySem.intText? z with
    | none => rw [e2] at e; cases e
    | some n =>
      rw [e2] at e
      cases e
      exact ⟨_, _, by rw [p.str.1], e2, h, q F L H _ (Ext.refl _ _ _) k (Vok.re rfl (.int _))⟩
  · cases e
def gList : D → Option D
  | .lst xs | .tup xs => some (.lst xs)
  | .scr ns => some (.lst (ns.map .int))
  | _ => none
theorem c_list (hK : X.K = C.K) : CallOk C .fr (fun xs H Q => ∃ p ys, xs = [.ref p] ∧ (SqL X.K H p ys ∨ SqT X.K H p ys) ∧ ∀ l, H l = none → Q (.ref l) (upd H l (.lst ys))) (f1 gList) := by
  rw [hK]
  refine call1 fun F L H S v x d Q k p e q => ?_
  cases x <;> simp only [gList, Option.some.injEq] at e <;> (first | cases e | skip)
  · obtain ⟨a, vs, rfl, h1, z, r, _⟩ := p.tup k.sub
    refine ⟨_, _, rfl, .inr h1, fun l n => ?_⟩
    obtain ⟨x1, x2, x3⟩ := new_lst k n z r
    exact q _ _ _ _ x1 x2 (Vok.fr x3)
  · obtain ⟨a, vs, rfl, h1, z, r⟩ := p.list k.sub
    refine ⟨_, _, rfl, .inl (SqL.of h1), fun l n => ?_⟩
    obtain ⟨x1, x2, x3⟩ := new_lst k n z r
    exact q _ _ _ _ x1 x2 (Vok.fr x3)
  · obtain ⟨a, rfl, h1, z⟩ := p.scr k.sub
    refine ⟨_, _, rfl, .inl h1, fun l n => ?_⟩
    obtain ⟨x1, x2, x3⟩ := new_lst (vs := _) k n (by rw [List.length_map]; exact z) (ints_rep _)
    exact q _ _ _ _ x1 x2 (Vok.fr x3)
def gTuple : D → Option D
  | .lst xs | .tup xs => some (.tup xs)
  | _ => none
theorem c_tuple (hK : X.K = C.K) : CallOk C .fr (fun xs H Q => ∃ p ys, xs = [.ref p] ∧ ((SqL X.K H p ys ∧ ∀ l, H l = none → Q (.ref l) (upd H l (.tup ys))) ∨ (SqT X.K H p ys ∧ Q (.ref p) H))) (f1 gTuple) := by
  rw [hK]
  refine call1 fun F L H S v x d Q k p e q => ?_
  cases x <;> simp only [gTuple, Option.some.injEq] at e <;> (first | cases e | skip)
  · obtain ⟨a, vs, rfl, h1, z, r, rr⟩ := p.tup k.sub
    exact ⟨_, _, rfl, .inr ⟨h1, q F L H _ (Ext.refl _ _ _) k (Vok.re rfl rr)⟩⟩
  · obtain ⟨a, vs, rfl, h1, z, r⟩ := p.list k.sub
    refine ⟨_, _, rfl, .inl ⟨SqL.of h1, fun l n => ?_⟩⟩
    obtain ⟨F', x1, x2, x3⟩ := new_tup k n z r
    exact q _ _ _ _ x1 x2 (Vok.re rfl x3)
def gSum : D → Option D
  | .lst xs => (dInts xs).map fun ns => .int ns.sum
  | _ => none
theorem c_sum (hK : X.K = C.K) : CallOk C .fr (rSum X.K) (f1 gSum) := by
  rw [hK]
  refine call1 fun F L H S v x d Q k p e q => ?_
  cases x <;> simp only [gSum] at e <;> (first | cases e | skip)
  rename_i xs
  obtain ⟨a, vs, rfl, h1, z, r⟩ := p.list k.sub
  cases e2 : dInts xs with
  | none => rw [e2] at e; cases e
  | some ns =>
    rw [e2] at e
    cases e
    exact ⟨a, ns, rfl, by rw [← dInts_rep r e2]; exact SqL.of h1, q F L H _ (Ext.refl _ _ _) k (Vok.re rfl (.int _))⟩
def gAll : D → Option D
  | .lst xs => (dBools xs).map fun bs => .bl (bs.all id)
  | _ => none
theorem c_all (hK : X.K = C.K) : CallOk C .fr (rAll X.K) (f1 gAll) := by
  rw [hK]
  refine call1 fun F L H S v x d Q k p e q => ?_
  cases x <;> simp only [gAll] at e <;> (first | cases e | skip)
  rename_i xs
  obtain ⟨a, vs, rfl, h1, z, r⟩ := p.list k.sub
  cases e2 : dBools xs with
  | none => rw [e2] at e; cases e
  | some ns =>
    rw [e2] at e
    cases e
    exact ⟨a, ns, rfl, by rw [← dBools_rep r e2]; exact SqL.of h1, q F L H _ (Ext.refl _ _ _) k (Vok.re rfl (.bl _))⟩
def gAny : D → Option D
  | .lst xs => (dBools xs).map fun bs => .bl (bs.any id)
  | _ => none
theorem c_any (hK : X.K = C.K) : CallOk C .fr (rAny X.K) (f1 gAny) := by
  rw [hK]
  refine call1 fun F L H S v x d Q k p e q => ?_
  cases x <;> simp only [gAny] at e <;> (first | cases e | skip)
  rename_i xs
  obtain ⟨a, vs, rfl, h1, z, r⟩ := p.list k.sub
  cases e2 : dBools xs with
  | none => rw [e2] at e; cases e
  | some ns =>
    rw [e2] at e
    cases e
    exact ⟨a, ns, rfl, by rw [← dBools_rep r e2]; exact SqL.of h1, q F L H _ (Ext.refl _ _ _) k (Vok.re rfl (.bl _))⟩
def gStr : D → Option D
  | .int i => if i.natAbs.log2 < 1920 then mkStr (toString i) else none
  | _ => none
theorem c_str : CallOk C .fr (fun xs H Q => ∃ i : Int, xs = [.int i] ∧ i.natAbs.log2 < 1920 ∧ Q (.str (toString i)) H) (f1 gStr) := by
  refine call1 fun F L H S v x d Q k p e q => ?_
  cases x <;> simp only [gStr] at e <;> (first | cases e | skip)
  split at e
  · rename_i z h
    obtain ⟨rfl, h2⟩ := mkStr_some e
    exact ⟨_, by rw [p.int], h, q F L H _ (Ext.refl _ _ _) k (Vok.re rfl (.str _ h2))⟩
  · cases e
def gStrS : D → Option D
  | .str x => some (.str x)
  | _ => none
theorem c_strS : CallOk C .fr (fun xs H Q => ∃ a : Str, xs = [.str a] ∧ Q (.str a) H) (f1 gStrS) := by
  refine call1 fun F L H S v x d Q k p e q => ?_
  cases x <;> simp only [gStrS] at e <;> (first | cases e | skip)
  exact ⟨_, by rw [p.str.1], q F L H _ (Ext.refl _ _ _) k (Vok.re rfl (.str _ p.str.2))⟩
def gMax : D → D → Option D
  | .int i, .int j => some (.int (if j > i then j else i))
  | _, _ => none
theorem c_max : CallOk C .fr (fun xs H Q => ∃ i j : Int, xs = [.int i, .int j] ∧ Q (.int (if j > i then j else i)) H) (f2 gMax) := by
  refine call2 fun F L H S v w x y d Q k p p' e q => ?_
  cases x <;> cases y <;> simp only [gMax, Option.some.injEq] at e <;> (first | cases e | skip)
  exact ⟨_, _, by rw [p.int, p'.int], q F L H _ (Ext.refl _ _ _) k (Vok.re rfl (.int _))⟩
def bltName : Blt → Str
  | .len => "len" | .int => "int" | .list => "list" | .tuple => "tuple" | .sum => "sum" | .str => "str" | .max2 => "max" | .all => "all" | .any => "any"
theorem m_blt (o : Blt) {p : Pos} (hK : X.K = C.K) (hcalm : X.calm = true) (hg : Gl X (bltName o)) (hm : X.mg (bltName o) = none)
    (he : starEach (a :: es) X.env = (false, eval a X.env) :: starEach es X.env) (hpl : (backTo pos (starEach es X.env)).any (·.1) = false) (ha : PA X (a :: es) (tP C W ms)) :
    PE X (.Call (.Name (bltName o) p) (a :: es) [] pos) (tE C W .fr fun ρ s => (ms ρ s).bind fun ds s => R.of (dBlt o ds) s) := by
  cases o with
  | len => exact m_bltB (call_len.or call_lenD) (CallOk.cong ((c_len hK).or c_lenD) fun l d e => by rcases l with _ | ⟨x, _ | ⟨y, l⟩⟩ <;> (try cases x) <;> simp_all [dBlt, f1, gLen, gLenD]) hg hm boot_len (by decide) (by decide) he hpl ha
  | int => exact m_bltT (call_int1.or call_int_str) (CallOk.cong (c_int.or c_intS) fun l d e => by rcases l with _ | ⟨x, _ | ⟨y, l⟩⟩ <;> (try cases x) <;> simp_all [dBlt, f1, gInt, gIntS]) hg hm boot_int (by decide) (by decide) he hpl ha
  | list => exact m_bltT call_list_of (CallOk.cong (c_list hK) fun l d e => by rcases l with _ | ⟨x, _ | ⟨y, l⟩⟩ <;> (try cases x) <;> simp_all [dBlt, f1, gList]) hg hm boot_list (by decide) (by decide) he hpl ha
  | tuple => exact m_bltT call_tuple_of (CallOk.cong (c_tuple hK) fun l d e => by rcases l with _ | ⟨x, _ | ⟨y, l⟩⟩ <;> (try cases x) <;> simp_all [dBlt, f1, gTuple]) hg hm boot_tuple (by decide) (by decide) he hpl ha
  | sum => exact m_bltB (cr_sum hcalm) (CallOk.cong (c_sum hK) fun l d e => by rcases l with _ | ⟨x, _ | ⟨y, l⟩⟩ <;> (try cases x) <;> simp_all [dBlt, f1, gSum]) hg hm (by decide +kernel) (by decide) (by decide) he hpl ha
  | str => exact m_bltT (call_str_int.or SkE.call_str_str) (CallOk.cong (c_str.or c_strS) fun l d e => by rcases l with _ | ⟨x, _ | ⟨y, l⟩⟩ <;> (try cases x) <;> simp_all [dBlt, f1, gStr, gStrS]) hg hm boot_str (by decide) (by decide) he hpl ha
  | max2 => exact m_bltB (call_max2 hcalm) (CallOk.cong c_max fun l d e => by rcases l with _ | ⟨x, _ | ⟨y, _ | ⟨z, l⟩⟩⟩ <;> (try cases x) <;> (try cases y) <;> simp_all [dBlt, f2, gMax]) hg hm (by decide +kernel) (by decide) (by decide) he hpl ha
  | all => exact m_bltB (cr_all hcalm) (CallOk.cong (c_all hK) fun l d e => by rcases l with _ | ⟨x, _ | ⟨y, l⟩⟩ <;> (try cases x) <;> simp_all [dBlt, f1, gAll]) hg hm (by decide +kernel) (by decide) (by decide) he hpl ha
  | any => exact m_bltB (cr_any hcalm) (CallOk.cong (c_any hK) fun l d e => by rcases l with _ | ⟨x, _ | ⟨y, l⟩⟩ <;> (try cases x) <;> simp_all [dBlt, f1, gAny]) hg hm (by decide +kernel) (by decide) (by decide) he hpl ha
end
end MP

/-! MP: what is walked, targets, comprehensions. -/
namespace MP
open PySem PySem.Spec PyProof.Rows L2

/-- a walk over the items ds, at every state in which T holds -/
structure Walk (C : Cn) (T : Hp → List Addr → Hp → Prop) (J : It) (ds : List D) : Prop where
  len : ds.length ≤ sizeLine
  go : ∀ (i : Nat) (F : Hp) (L : List Addr) (H : Hp) (S : Sto), T F L H → Ok C F L H S → i < ds.length → J.go i H
  yld : ∀ (i : Nat) (F : Hp) (L : List Addr) (H : Hp) (S : Sto) (d : D), T F L H → Ok C F L H S → ds[i]? = some d → ∀ x H', J.yld i H x H' → ∃ F', Ext F L H F' L H' ∧ Ok C F' L H' S ∧ Rep C F' L x d
  stop : ∀ (i : Nat) (F : Hp) (L : List Addr) (H : Hp) (S : Sto), T F L H → Ok C F L H S → ds.length ≤ i → J.stop i H
/-- fz: the walked thing is frozen (a body may change own lists); else an expression's walk -/
def tgt (fz : Bool) (F : Hp) (L : List Addr) (H : Hp) : Hp → List Addr → Hp → Prop := fun F' L' H' => if fz = true then Sub F F' ∧ L <+: L' else Ext F L H F' L' H'
theorem tgt.sub {fz : Bool} {F : Hp} {L : List Addr} {H : Hp} {F' : Hp} {L' : List Addr} {H' : Hp} (h : tgt fz F L H F' L' H') : Sub F F' ∧ L <+: L' := by
  cases fz with
  | true => simpa [tgt] using h
  | false => exact ⟨(show Ext F L H F' L' H' by simpa [tgt] using h).ff, (show Ext F L H F' L' H' by simpa [tgt] using h).ll⟩
theorem tgt.of {fz : Bool} {F : Hp} {L : List Addr} {H : Hp} {F' : Hp} {L' : List Addr} {H' : Hp} (h : Ext F L H F' L' H') : tgt fz F L H F' L' H' := by
  cases fz with
  | true => simpa [tgt] using And.intro h.ff h.ll
  | false => simpa [tgt] using h
def lvS (fz : Bool) : Lv := if fz then .rep else .pk
def tI (C : Cn) (W : WX) (fz : Bool) (m : Env' → Sto → R (List D)) : TI := fun σ H Q => ∃ F L S ρ, Ok C F L H S ∧ EnvOk C F L H ρ σ ∧
  Rn C W σ F L H (m ρ S) fun F' L' H' _ ds => ∀ J, Walk C (tgt fz F' L' H') J ds → Q J H'
theorem PI.imp {X : Cx} {tg e : Expr} {t t' : TI} (h : PI X tg e t) (f : ∀ σ H Q, t' σ H Q → t σ H Q) : PI X tg e t' := ⟨fun pins s σ H Q I q => h.run pins s σ H Q I (f σ H Q q)⟩
theorem PI.or {X : Cx} {tg e : Expr} {t t' : TI} (h : PI X tg e t) (h' : PI X tg e t') : PI X tg e (fun σ H Q => t σ H Q ∨ t' σ H Q) := ⟨fun pins s σ H Q I q => q.elim (h.run pins s σ H Q I) (h'.run pins s σ H Q I)⟩
theorem PE.or {X : Cx} {e : Expr} {t t' : TE} (h : PE X e t) (h' : PE X e t') : PE X e (fun σ H Q => t σ H Q ∨ t' σ H Q) := ⟨fun pins s σ H Q I q => q.elim (h.run pins s σ H Q I) (h'.run pins s σ H Q I)⟩
section
variable {C : Cn} {W : WX} {X : Cx} {lv : Lv} {fz : Bool} {a b c tg : Expr} {pos : Pos} {ma mb mc : Env' → Sto → R D} {es : List Expr} {ms : Env' → Sto → R (List D)}
theorem Rep.tgt {F F' : Hp} {L L' : List Addr} {H H' : Hp} {v : V} {d : D} (r : Rep C F L v d) (h : MP.tgt fz F L H F' L' H') : Rep C F' L' v d := r.up h.sub.1 h.sub.2
/-- a list that stays -/
theorem stay_list {F : Hp} {L : List Addr} {H : Hp} {S : Sto} {v : V} {ds : List D} (k : Ok C F L H S) (x : Vok C F L H H (lvS fz) v (.lst ds)) : ∃ p vs, v = .ref p ∧ H p = some (.lst vs) ∧ vs.length ≤ sizeLine ∧ RepAll C F L vs ds ∧ ∀ F' L' H' S', tgt fz F L H F' L' H' → Ok C F' L' H' S' → H' p = some (.lst vs) := by
  cases fz with
  | true =>
    have r : Rep C F L v (.lst ds) := x
    cases r with
    | lst h z r => exact ⟨_, _, rfl, k.sub _ _ h, z, r, fun F' L' H' S' t k' => k'.sub _ _ (t.sub.1 _ _ h)⟩
  | false =>
    have r : Pk C F L H v (.lst ds) := x
    cases r with
    | rep r => cases r with | lst h z r => exact ⟨_, _, rfl, k.sub _ _ h, z, r, fun F' L' H' S' t k' => k'.sub _ _ (t.sub.1 _ _ h)⟩
    | lst h n z r => exact ⟨_, _, rfl, h, z, r, fun F' L' H' S' t k' => (show Ext F L H F' L' H' by simpa [tgt] using t).keep _ _ h n⟩
theorem lvS.pk {F : Hp} {L : List Addr} {H H0 : Hp} {v : V} {d : D} (x : Vok C F L H0 H (lvS fz) v d) : Pk C F L H v d := x.pk
theorem w_list {F : Hp} {L : List Addr} {H : Hp} {p : Addr} {vs : List V} {ds : List D} (z : vs.length ≤ sizeLine) (r : RepAll C F L vs ds) (st : ∀ F' L' H' S', tgt fz F L H F' L' H' → Ok C F' L' H' S' → H' p = some (.lst vs)) : Walk C (tgt fz F L H) (Itl C.K p) ds where
  len := by rw [← r.length]; exact z
  go := fun i F' L' H' S t k hi => by
    have hi' : i < vs.length := by rw [r.length]; exact hi
    exact ⟨vs, vs[i], SqL.of (st _ _ _ _ t k), List.getElem?_eq_getElem hi'⟩
  yld := fun i F' L' H' S d t k hd x H'' ⟨e, y⟩ => by
    subst e
    obtain ⟨v, h1, h2⟩ := r.get hd
    have h3 := y vs (SqL.of (st _ _ _ _ t k))
    rw [h1] at h3
    cases h3
    exact ⟨F', Ext.refl _ _ _, k, h2.up t.sub.1 t.sub.2⟩
  stop := fun i F' L' H' S t k hi => ⟨vs, SqL.of (st _ _ _ _ t k), by rw [r.length]; exact hi⟩
theorem w_tup {F : Hp} {L : List Addr} {H : Hp} {p : Addr} {vs : List V} {ds : List D} (h : SqT C.K F p vs) (z : vs.length ≤ sizeLine) (r : RepAll C F L vs ds) : Walk C (tgt fz F L H) (Itt C.K p) ds where
  len := by rw [← r.length]; exact z
  go := fun i F' L' H' S t k hi => by
    have hi' : i < vs.length := by rw [r.length]; exact hi
    exact ⟨vs, vs[i], k.sub.sqT (t.sub.1.sqT h), List.getElem?_eq_getElem hi'⟩
  yld := fun i F' L' H' S d t k hd x H'' ⟨e, y⟩ => by
    subst e
    obtain ⟨v, h1, h2⟩ := r.get hd
    have h3 := y vs (k.sub.sqT (t.sub.1.sqT h))
    rw [h1] at h3
    cases h3
    exact ⟨F', Ext.refl _ _ _, k, h2.up t.sub.1 t.sub.2⟩
  stop := fun i F' L' H' S t k hi => ⟨vs, k.sub.sqT (t.sub.1.sqT h), by rw [r.length]; exact hi⟩
theorem sOk_one {x : Str} (h : sOk x = true) {i : Nat} {c : Nat} (e : x.cps[i]? = some c) : sOk ⟨#[c]⟩ = true := by
  unfold sOk at h ⊢
  simp only [Bool.and_eq_true, decide_eq_true_eq, Array.all_eq_true] at h ⊢
  refine ⟨(by decide : 1 ≤ BIG), fun j hj => ?_⟩
  obtain ⟨hi, e⟩ := Array.getElem?_eq_some_iff.mp e
  have := h.2 i hi
  rw [e] at this
  simp at hj
  subst hj
  simpa using this
theorem w_str {F : Hp} {L : List Addr} {H : Hp} {x : Str} (h : sOk x = true) : Walk C (tgt fz F L H) (Its x) (x.cps.toList.map fun c => .str ⟨#[c]⟩) where
  len := by rw [List.length_map]; simpa [Str.length] using sOk_len h
  go := fun i F' L' H' S t k hi => by simpa [Its] using hi
  yld := fun i F' L' H' S d t k hd v H'' ⟨e, cc, e1, e2⟩ => by
    subst e e2
    simp only [List.getElem?_map, Array.getElem?_toList, e1, Option.map_some, Option.some.injEq] at hd
    subst hd
    exact ⟨F', Ext.refl _ _ _, k, .str _ (sOk_one h e1)⟩
  stop := fun i F' L' H' S t k hi => by simpa [Its] using hi
theorem w_rng {F : Hp} {L : List Addr} {H : Hp} {lo : Int} {n : Nat} (h : n ≤ sizeLine) : Walk C (tgt fz F L H) (Itr lo n) (rngItems lo n) where
  len := by simpa [rngItems] using h
  go := fun i F' L' H' S t k hi => by simpa [Itr, rngItems] using hi
  yld := fun i F' L' H' S d t k hd v H'' ⟨e, e2⟩ => by
    subst e e2
    have hi : i < n := by have := (List.getElem?_eq_some_iff.mp hd).1; simpa [rngItems] using this
    have : d = .int (lo + i) := by simpa [rngItems, List.getElem?_map, List.getElem?_range hi] using hd.symm
    subst this
    exact ⟨F', Ext.refl _ _ _, k, .int _⟩
  stop := fun i F' L' H' S t k hi => by simpa [Itr, rngItems] using hi
theorem w_scr {F : Hp} {L : List Addr} {H : Hp} {p : Addr} {ns : List Int} (h : SqL C.K F p (ns.map V.int)) (z : ns.length ≤ sizeLine) : Walk C (tgt fz F L H) (Itl C.K p) (ns.map D.int) where
  len := by rw [List.length_map]; exact z
  go := fun i F' L' H' S t k hi => by
    have hi' : i < (ns.map V.int).length := by simpa using hi
    exact ⟨ns.map V.int, (ns.map V.int)[i], k.sub.sqL (t.sub.1.sqL h), List.getElem?_eq_getElem hi'⟩
  yld := fun i F' L' H' S d t k hd x H'' ⟨e, y⟩ => by
    subst e
    obtain ⟨v, h1, h2⟩ := (ints_rep (C := C) (F := F) (L := L) ns).get hd
    have h3 := y _ (k.sub.sqL (t.sub.1.sqL h))
    rw [h1] at h3
    cases h3
    exact ⟨F', Ext.refl _ _ _, k, h2.up t.sub.1 t.sub.2⟩
  stop := fun i F' L' H' S t k hi => ⟨_, k.sub.sqL (t.sub.1.sqL h), by simpa using hi⟩
/-- a value that is walked: a list, a tuple, a text -/
theorem m_sval (hK : X.K = C.K) (ha : PE X a (tE C W (lvS fz) ma)) : PI X tg a (tI C W fz fun ρ s => (ma ρ s).bind fun x s => R.of (items x) s) := by
  refine PI.imp (PI.or (pi_list ha) (PI.or (pi_tup ha) (pi_str ha))) fun σ H Q ⟨F, L, S, ρ, k, en, q⟩ => ?_
  have q' := q.bind
  cases e : ma ρ S with
  | exc x s => rw [e] at q'; exact .inl ⟨F, L, S, ρ, k, en, by rw [e]; exact q'⟩
  | stuck => rw [e] at q'; exact False.elim q'
  | ok d S' =>
    rw [e] at q'
    cases d with
    | lst ds =>
      refine .inl ⟨F, L, S, ρ, k, en, ?_⟩
      rw [e]
      intro F1 L1 H1 e1 k1 v r1
      have r1 : Vok C F1 L1 H1 H1 (lvS fz) v (.lst ds) := by cases fz <;> exact r1
      obtain ⟨p, vs, rfl, h1, z, r, st⟩ := stay_list k1 r1
      refine ⟨p, rfl, ⟨vs, SqL.of h1⟩, ?_⟩
      rw [hK]
      exact (q' _ _ _ e1 k1).now k1 _ (w_list z r st)
    | tup ds =>
      refine .inr (.inl ⟨F, L, S, ρ, k, en, ?_⟩)
      rw [e]
      intro F1 L1 H1 e1 k1 v r1
      have r1 : Rep C F1 L1 v (.tup ds) := by
        cases fz with
        | true => exact r1
        | false => exact (Pk.tup k1.sub (show Pk C F1 L1 H1 v (.tup ds) from r1)).choose_spec.choose_spec.2.2.2.2
      cases r1 with
      | tup h z r =>
        refine ⟨_, rfl, ⟨_, by rw [hK]; exact k1.sub.sqT h⟩, ?_⟩
        rw [hK]
        exact (q' _ _ _ e1 k1).now k1 _ (w_tup h z r)
    | str z =>
      refine .inr (.inr ⟨F, L, S, ρ, k, en, ?_⟩)
      rw [e]
      intro F1 L1 H1 e1 k1 v r1
      have r1 : Pk C F1 L1 H1 v (.str z) := r1.pk
      exact ⟨z, r1.str.1, (q' _ _ _ e1 k1).now k1 _ (w_str r1.str.2)⟩
    | scr ns =>
      refine .inl ⟨F, L, S, ρ, k, en, ?_⟩
      rw [e]
      intro F1 L1 H1 e1 k1 v r1
      have r1 : Rep C F1 L1 v (.scr ns) := by
        cases fz with
        | true => exact r1
        | false => cases (show Pk C F1 L1 H1 v (.scr ns) from r1) with | rep r => exact r
      cases r1 with
      | scr h z =>
        refine ⟨_, rfl, ⟨_, by rw [hK]; exact k1.sub.sqL h⟩, ?_⟩
        rw [hK]
        exact (q' _ _ _ e1 k1).now k1 _ (w_scr h z)
    | _ => exact .inl ⟨F, L, S, ρ, k, en, by rw [e]; exact fun F1 L1 H1 e1 k1 v r1 => False.elim (q' _ _ _ e1 k1)⟩
/-- range(..) -/
theorem m_srng1 {p pp : Pos} (hg : Gl X "range") (hm : X.mg "range" = none) (hs : starEach [a] X.env = [(false, eval a X.env)]) (ha : PA X [a] (tP C W ms)) (h1 : ∀ ρ s ds s', ms ρ s = .ok ds s' → ds.length = 1) :
    PI X tg (.Call (.Name "range" p) [a] [] pp) (tI C W fz fun ρ s => (ms ρ s).bind fun ds s => R.of (dRng ds) s) := by
  refine PI.imp (pi_range1 hg hm ha hs) fun σ H Q ⟨F, L, S, ρ, k, en, q⟩ => ⟨F, L, S, ρ, k, en, ?_⟩
  have q' := q.bind
  cases e : ms ρ S with
  | exc x s => rw [e] at q'; exact q'
  | stuck => rw [e] at q'; exact q'
  | ok ds S' =>
    rw [e] at q'
    intro F1 L1 H1 e1 k1 vs r1
    obtain ⟨d, hd, q1⟩ := (q' _ _ _ e1 k1).of
    have hl := h1 _ _ _ _ e
    rcases ds with _ | ⟨x, _ | ⟨y, l⟩⟩ <;> (first | (simp at hl; done) | skip)
    cases x <;> simp only [dRng] at hd <;> (first | cases hd | skip)
    rename_i j
    split at hd
    · rename_i h
      cases hd
      simp only [Bool.and_eq_true, decide_eq_true_eq] at h
      cases r1 with
      | cons r1 r2 =>
        cases r2
        have hb : (BIG : Int) = 16777216 := rfl
        exact ⟨j, by rw [r1.int], h.1, by omega, q1.now k1 _ (w_rng (by rw [sizeBIG]; omega))⟩
    · cases hd
theorem m_srng2 {p pp : Pos} (hg : Gl X "range") (hm : X.mg "range" = none) (hs : starEach [a, b] X.env = [(false, eval a X.env), (false, eval b X.env)]) (hs2 : starEach [b] X.env = [(false, eval b X.env)]) (ha : PA X [a, b] (tP C W ms)) (h1 : ∀ ρ s ds s', ms ρ s = .ok ds s' → ds.length = 2) :
    PI X tg (.Call (.Name "range" p) [a, b] [] pp) (tI C W fz fun ρ s => (ms ρ s).bind fun ds s => R.of (dRng ds) s) := by
  refine PI.imp (pi_range2 hg hm ha hs hs2) fun σ H Q ⟨F, L, S, ρ, k, en, q⟩ => ⟨F, L, S, ρ, k, en, ?_⟩
  have q' := q.bind
  cases e : ms ρ S with
  | exc x s => rw [e] at q'; exact q'
  | stuck => rw [e] at q'; exact q'
  | ok ds S' =>
    rw [e] at q'
    intro F1 L1 H1 e1 k1 vs r1
    obtain ⟨d, hd, q1⟩ := (q' _ _ _ e1 k1).of
    have hl := h1 _ _ _ _ e
    rcases ds with _ | ⟨x, _ | ⟨y, _ | ⟨z, l⟩⟩⟩ <;> (first | (simp at hl; done) | skip)
    cases x <;> cases y <;> simp only [dRng] at hd <;> (first | cases hd | skip)
    rename_i i j
    split at hd
    · rename_i h
      cases hd
      simp only [Bool.and_eq_true, decide_eq_true_eq] at h
      cases r1 with
      | cons r1 r2 =>
        cases r2 with
        | cons r2 r3 =>
          cases r3
          exact ⟨i, j, by rw [r1.int, r2.int], ⟨h.1.1.1.1, h.1.1.1.2, h.1.1.2, h.1.2⟩, q1.now k1 _ (w_rng (by rw [sizeBIG]; exact h.2))⟩
    · cases hd
theorem enum_get : ∀ {n i : Nat} {ds : List D} {d : D}, (enumFrom' n ds)[i]? = some d → ∃ e, ds[i]? = some e ∧ d = .tup [.int ((n + i : Nat) : Int), e]
  | n, i, [], d, h => by simp [enumFrom'] at h
  | n, 0, x :: xs, d, h => by
    simp [enumFrom'] at h
    exact ⟨x, rfl, by simp [← h]⟩
  | n, i + 1, x :: xs, d, h => by
    simp only [enumFrom', List.getElem?_cons_succ] at h
    obtain ⟨e, h1, h2⟩ := enum_get h
    exact ⟨e, by simpa using h1, by rw [h2]; congr 4; omega⟩
theorem enum_length : ∀ {n : Nat} {ds : List D}, (enumFrom' n ds).length = ds.length
  | _, [] => rfl
  | _, _ :: _ => by simp [enumFrom', enum_length]
theorem rep_pair {F : Hp} {L : List Addr} {H : Hp} {S : Sto} {T : Addr} {x y : V} {d e : D} (k : Ok C F L H S) (n : H T = none) (h1 : Rep C F L x d) (h2 : Rep C F L y e) : ∃ F', Ext F L H F' L (upd H T (.tup [x, y])) ∧ Ok C F' L (upd H T (.tup [x, y])) S ∧ Rep C F' L (.ref T) (.tup [d, e]) :=
  new_tup k n (by show 2 ≤ sizeLine; decide) (.cons h1 (.cons h2 .nil))
theorem w_enumT {F : Hp} {L : List Addr} {H : Hp} {p : Addr} {vs : List V} {ds : List D} (h : SqT C.K F p vs) (z : vs.length ≤ sizeLine) (r : RepAll C F L vs ds) : Walk C (tgt fz F L H) (IteT C.K p) (enumFrom' 0 ds) where
  len := by rw [enum_length, ← r.length]; exact z
  go := fun i F' L' H' S t k hi => by
    have hi' : i < vs.length := by rw [r.length]; rw [enum_length] at hi; exact hi
    exact ⟨vs, vs[i], k.sub.sqT (t.sub.1.sqT h), List.getElem?_eq_getElem hi'⟩
  yld := fun i F' L' H' S d t k hd x H'' ⟨T, y, e1, n, e2, hh⟩ => by
    subst e1 e2
    obtain ⟨e, h1, rfl⟩ := enum_get hd
    obtain ⟨v, h2, h3⟩ := r.get h1
    have h4 := hh vs (k.sub.sqT (t.sub.1.sqT h))
    rw [h2] at h4
    cases h4
    simp only [Nat.zero_add]
    exact rep_pair k n (.int _) (h3.up t.sub.1 t.sub.2)
  stop := fun i F' L' H' S t k hi => ⟨vs, k.sub.sqT (t.sub.1.sqT h), by rw [r.length]; rw [enum_length] at hi; exact hi⟩
theorem w_enum {F : Hp} {L : List Addr} {H : Hp} {p : Addr} {vs : List V} {ds : List D} (z : vs.length ≤ sizeLine) (r : RepAll C F L vs ds) (st : ∀ F' L' H' S', tgt fz F L H F' L' H' → Ok C F' L' H' S' → H' p = some (.lst vs)) : Walk C (tgt fz F L H) (Ite C.K p) (enumFrom' 0 ds) where
  len := by rw [enum_length, ← r.length]; exact z
  go := fun i F' L' H' S t k hi => by
    have hi' : i < vs.length := by rw [r.length]; rw [enum_length] at hi; exact hi
    exact ⟨vs, vs[i], SqL.of (st _ _ _ _ t k), List.getElem?_eq_getElem hi'⟩
  yld := fun i F' L' H' S d t k hd x H'' ⟨T, y, e1, n, e2, h⟩ => by
    subst e1 e2
    obtain ⟨e, h1, rfl⟩ := enum_get hd
    obtain ⟨v, h2, h3⟩ := r.get h1
    have h4 := h vs (SqL.of (st _ _ _ _ t k))
    rw [h2] at h4
    cases h4
    simp only [Nat.zero_add]
    exact rep_pair k n (.int _) (h3.up t.sub.1 t.sub.2)
  stop := fun i F' L' H' S t k hi => ⟨vs, SqL.of (st _ _ _ _ t k), by rw [r.length]; rw [enum_length] at hi; exact hi⟩
/-- enumerate(a list or a tuple) -/
theorem m_senum {elts : List Expr} {kk : Nat} {p pp tp : Pos} (hK : X.K = C.K) (hg : Gl X "enumerate") (hm : X.mg "enumerate" = none) (hs : starEach [a] X.env = [(false, eval a X.env)]) (ha : PE X a (tE C W (lvS fz) ma)) :
    PI X (.Tuple elts kk tp) (.Call (.Name "enumerate" p) [a] [] pp) (tI C W fz fun ρ s => (ma ρ s).bind fun x s => (R.of (seqItems x) s).bind fun ds s => .ok (enumFrom' 0 ds) s) := by
  refine PI.imp (pi_enum2 hg hm (pa_cons ha pa_nil hs) hs) fun σ H Q ⟨F, L, S, ρ, k, en, q⟩ => ⟨F, L, S, ρ, k, en, q.bind.imp fun F1 L1 H1 S1 x e1 k1 q1 v r1 => ?_⟩
  obtain ⟨ds, hd, q1⟩ := q1.bind.of
  have q1 := q1.now k1
  have hx : x = .lst ds ∨ x = .tup ds := by cases x <;> simp_all [seqItems]
  rcases hx with rfl | rfl
  · have r1 : Vok C F1 L1 H1 H1 (lvS fz) v (.lst ds) := by cases fz <;> exact r1
    obtain ⟨p, vs, rfl, h1, z, r, st⟩ := stay_list k1 r1
    refine ⟨p, vs, rfl, .inl ⟨SqL.of h1, ?_⟩⟩
    rw [hK]
    exact q1.now k1 _ (w_enum z r st)
  · have r2 : Pk C F1 L1 H1 v (.tup ds) := by
      cases fz with
      | true => exact .rep (show Rep C F1 L1 v (.tup ds) from r1)
      | false => exact r1
    cases r2 with
    | rep r2 =>
      cases r2 with
      | tup h z r =>
        refine ⟨_, _, rfl, .inr ⟨by rw [hK]; exact k1.sub.sqT h, ?_⟩⟩
        rw [hK]
        exact q1.now k1 _ (w_enumT h z r)
theorem zip_get : ∀ {i : Nat} {xs ys : List D} {d : D}, (zipD xs ys)[i]? = some d → ∃ a b, xs[i]? = some a ∧ ys[i]? = some b ∧ d = .tup [a, b]
  | i, [], ys, d, h => by simp [zipD] at h
  | i, x :: xs, [], d, h => by simp [zipD] at h
  | 0, x :: xs, y :: ys, d, h => by
    simp [zipD] at h
    exact ⟨x, y, rfl, rfl, h.symm⟩
  | i + 1, x :: xs, y :: ys, d, h => by
    simp only [zipD, List.getElem?_cons_succ] at h
    obtain ⟨a, b, h1, h2, h3⟩ := zip_get h
    exact ⟨a, b, by simpa using h1, by simpa using h2, h3⟩
theorem zip_length : ∀ {xs ys : List D}, (zipD xs ys).length = min xs.length ys.length
  | [], _ => by simp [zipD]
  | _ :: _, [] => by simp [zipD]
  | _ :: _, _ :: _ => by simp only [zipD, List.length_cons, zip_length]; omega
theorem w_zip {F : Hp} {L : List Addr} {H : Hp} {p p' : Addr} {vs vs' : List V} {ds ds' : List D} (z : vs.length ≤ sizeLine) (r : RepAll C F L vs ds) (r' : RepAll C F L vs' ds') (st : ∀ F' L' H' S', tgt fz F L H F' L' H' → Ok C F' L' H' S' → H' p = some (.lst vs)) (st' : ∀ F' L' H' S', tgt fz F L H F' L' H' → Ok C F' L' H' S' → H' p' = some (.lst vs')) :
    Walk C (tgt fz F L H) (Itz C.K p p') (zipD ds ds') where
  len := by rw [zip_length, ← r.length]; omega
  go := fun i F' L' H' S t k hi => by
    rw [zip_length] at hi
    have h1 : i < vs.length := by rw [r.length]; omega
    have h2 : i < vs'.length := by rw [r'.length]; omega
    exact ⟨vs, vs', vs[i], vs'[i], SqL.of (st _ _ _ _ t k), SqL.of (st' _ _ _ _ t k), List.getElem?_eq_getElem h1, List.getElem?_eq_getElem h2⟩
  yld := fun i F' L' H' S d t k hd x H'' ⟨T, y, y', e1, n, e2, h, h'⟩ => by
    subst e1 e2
    obtain ⟨u, w, h1, h1', rfl⟩ := zip_get hd
    obtain ⟨v, h2, h3⟩ := r.get h1
    obtain ⟨v', h2', h3'⟩ := r'.get h1'
    have h4 := h vs (SqL.of (st _ _ _ _ t k))
    have h4' := h' vs' (SqL.of (st' _ _ _ _ t k))
    rw [h2] at h4
    rw [h2'] at h4'
    cases h4
    cases h4'
    exact rep_pair k n (h3.up t.sub.1 t.sub.2) (h3'.up t.sub.1 t.sub.2)
  stop := fun i F' L' H' S t k hi => ⟨vs, vs', SqL.of (st _ _ _ _ t k), SqL.of (st' _ _ _ _ t k), by rw [zip_length] at hi; rw [r.length, r'.length]; omega⟩
/-- zip(list, list) -/
theorem m_szip {elts : List Expr} {kk : Nat} {p pp tp : Pos} (hK : X.K = C.K) (hg : Gl X "zip") (hm : X.mg "zip" = none) (hs : starEach [a, b] X.env = (false, eval a X.env) :: starEach [b] X.env) (hs2 : starEach [b] X.env = [(false, eval b X.env)]) (ha : PE X a (tE C W (lvS fz) ma)) (hb : PE X b (tE C W (lvS fz) mb)) :
    PI X (.Tuple elts kk tp) (.Call (.Name "zip" p) [a, b] [] pp) (tI C W fz fun ρ s => (ma ρ s).bind fun x s => (mb ρ s).bind fun y s => (R.of (lstItems x) s).bind fun xs s => (R.of (lstItems y) s).bind fun ys s => .ok (zipD xs ys) s) := by
  refine PI.imp (pi_zip hg hm (pa_cons ha (pa_cons hb pa_nil hs2) hs) hs (by rw [hs2]; rfl)) fun σ H Q ⟨F, L, S, ρ, k, en, q⟩ => ⟨F, L, S, ρ, k, en, q.bind.imp fun F1 L1 H1 S1 x e1 k1 q1 v r1 => ?_⟩
  refine ⟨F1, L1, S1, ρ, k1, en.ext e1, q1.bind.imp fun F2 L2 H2 S2 y e2 k2 q2 w r2 => ?_⟩
  obtain ⟨ds, hd, q2⟩ := q2.bind.of
  obtain ⟨es, he, q2⟩ := (q2.now k2).bind.of
  have q2 := q2.now k2
  have hx : x = .lst ds := by cases x <;> simp_all [lstItems]
  have hy : y = .lst es := by cases y <;> simp_all [lstItems]
  subst hx hy
  have r1 : Vok C F2 L2 H2 H2 (lvS fz) v (.lst ds) := by
    cases fz with
    | true => exact Rep.up e2.ff e2.ll (show Rep C F1 L1 v (.lst ds) from r1)
    | false => exact Pk.ext (show Pk C F1 L1 H1 v (.lst ds) from r1) e2
  have r2 : Vok C F2 L2 H2 H2 (lvS fz) w (.lst es) := by cases fz <;> exact r2
  obtain ⟨p, vs, rfl, h1, z, r, st⟩ := stay_list k2 r1
  obtain ⟨p', vs', rfl, h1', z', r', st'⟩ := stay_list k2 r2
  refine ⟨p, p', vs, vs', rfl, SqL.of h1, SqL.of h1', ?_⟩
  rw [hK]
  exact q2.now k2 _ (w_zip z r r' st st')
end
end MP

/-! MP: targets, comprehensions. -/
namespace MP
open PySem PySem.Spec PyProof.Rows L2
section
variable {C : Cn} {F F' : Hp} {L L' : List Addr} {H H' : Hp} {ρ : Env'} {σ : Sg}
theorem EnvOk.setI {i : Nat} {v : V} {d : D} (en : EnvOk C F L H ρ σ) (r : Rep C F L v d) : EnvOk C F L H (setI ρ i d) (σ.set i (some v)) where
  len := by unfold MP.setI; rw [List.length_set, List.length_set]; exact en.len
  slot := fun j z x h1 h2 => by
    unfold MP.setI at h1
    by_cases hj : i = j
    · subst hj
      rw [List.getElem?_set_self' ] at h1 h2
      cases e : ρ[i]? with
      | none => rw [e] at h1; cases h1
      | some w =>
        cases e' : σ[i]? with
        | none => rw [e'] at h2; cases h2
        | some w' =>
          rw [e] at h1; rw [e'] at h2
          cases h1; cases h2
          exact ⟨v, rfl, r⟩
    · rw [List.getElem?_set_ne hj] at h1 h2
      exact en.slot j z x h1 h2
  sep := fun j k d e v h1 h2 h3 h4 => by
    unfold MP.setI at h1 h2
    have hj : i ≠ j := by
      rintro rfl
      rw [List.getElem?_set_self'] at h1
      cases e : ρ[i]? <;> rw [e] at h1 <;> cases h1
    have hk : i ≠ k := by
      rintro rfl
      rw [List.getElem?_set_self'] at h2
      cases e : ρ[i]? <;> rw [e] at h2 <;> cases h2
    rw [List.getElem?_set_ne hj] at h1 h3
    rw [List.getElem?_set_ne hk] at h2 h4
    exact en.sep j k d e v h1 h2 h3 h4
theorem EnvOk.no {i : Nat} {x : Option V} (en : EnvOk C F L H ρ σ) : EnvOk C F L H (ρ.set i .no) (σ.set i x) where
  len := by rw [List.length_set, List.length_set]; exact en.len
  slot := fun j z x h1 h2 => by
    by_cases hj : i = j
    · subst hj
      rw [List.getElem?_set_self'] at h1
      cases e : ρ[i]? with
      | none => rw [e] at h1; cases h1
      | some w => rw [e] at h1; cases h1; trivial
    · rw [List.getElem?_set_ne hj] at h1 h2
      exact en.slot j z x h1 h2
  sep := fun j k d e v h1 h2 h3 h4 => by
    have hj : i ≠ j := by
      rintro rfl
      rw [List.getElem?_set_self'] at h1
      cases e : ρ[i]? <;> rw [e] at h1 <;> cases h1
    have hk : i ≠ k := by
      rintro rfl
      rw [List.getElem?_set_self'] at h2
      cases e : ρ[i]? <;> rw [e] at h2 <;> cases h2
    rw [List.getElem?_set_ne hj] at h1 h3
    rw [List.getElem?_set_ne hk] at h2 h4
    exact en.sep j k d e v h1 h2 h3 h4
theorem EnvOk.wipe (en : EnvOk C F L H ρ σ) : ∀ vs : List Nat, EnvOk C F L H (wipeE ρ vs) (L2.wipe σ vs)
  | [] => en
  | i :: is => by unfold wipeE L2.wipe; exact (EnvOk.wipe en is).no
theorem set_wipe {i : Nat} {v : Option V} : ∀ {vs : List Nat}, i ∈ vs → ∀ σ : Sg, L2.wipe (σ.set i v) vs = L2.wipe σ vs
  | [], h, _ => by simp at h
  | j :: js, h, σ => by
    unfold L2.wipe
    by_cases hj : i ∈ js
    · rw [set_wipe hj]
    · have e : i = j := by simpa [hj] using h
      subst e
      have : ∀ (js : List Nat) (σ : Sg), i ∉ js → L2.wipe (σ.set i v) js = (L2.wipe σ js).set i v := by
        intro js
        induction js with
        | nil => intro σ _; rfl
        | cons k ks ih =>
          intro σ hk
          unfold L2.wipe
          rw [ih σ (fun z => hk (List.mem_cons_of_mem _ z)), List.set_comm]
          intro z; exact hk (by simp [z])
      rw [this js σ hj, List.set_set]
theorem wipe_wipe (σ : Sg) : ∀ vs ws : List Nat, (∀ i ∈ vs, i ∈ ws) → L2.wipe (L2.wipe σ vs) ws = L2.wipe σ ws
  | [], _, _ => rfl
  | i :: is, ws, h => by
    show L2.wipe ((L2.wipe σ is).set i none) ws = _
    rw [set_wipe (h i List.mem_cons_self), wipe_wipe σ is ws fun j hj => h j (List.mem_cons_of_mem _ hj)]
/-- a target's reading -/
def gsOf : List Nat → TGs
  | [] => gNil
  | i :: is => gCons (gName i) (gsOf is)
def gOf (K : PySem.W.Frag) : Tg → TG
  | .one i => gName i
  | .tup is => gTup K is.length (gsOf is)
def tgIn (vs : List Nat) : Tg → Prop
  | .one i => i ∈ vs
  | .tup is => ∀ i ∈ is, i ∈ vs
theorem gs_ok : ∀ {is : List Nat} {xs : List V} {ds : List D} {ρ : Env'} {σ : Sg} {Q : Sg → Hp → Prop}, RepAll C F L xs ds → ds.length = is.length → EnvOk C F L H ρ σ →
    (∀ σ', EnvOk C F L H (setAll ρ is ds) σ' → (∀ vs, (∀ i ∈ is, i ∈ vs) → L2.wipe σ' vs = L2.wipe σ vs) → Q σ' H) → gsOf is xs σ H Q
  | [], _, _, ρ, σ, Q, .nil, _, en, q => ⟨rfl, q σ en fun _ _ => rfl⟩
  | i :: is, _, _, ρ, σ, Q, .cons r t, hl, en, q => by
    refine ⟨_, _, rfl, gs_ok t (by simpa using hl) (en.setI (i := i) r) fun σ' e' w => q σ' e' fun vs h => ?_⟩
    rw [w vs fun j hj => h j (List.mem_cons_of_mem _ hj), set_wipe (h i List.mem_cons_self)]
  | [], _, _, _, _, _, .cons _ _, hl, _, _ => by simp at hl
  | _ :: _, _, _, _, _, _, .nil, hl, _, _ => by simp at hl
theorem g_ok {S : Sto} {tg : Tg} {x : V} {d : D} {ρ' : Env'} {Q : Sg → Hp → Prop} (k : Ok C F L H S) (r : Rep C F L x d) (h : bindTg ρ tg d = some ρ') (en : EnvOk C F L H ρ σ)
    (q : ∀ σ', EnvOk C F L H ρ' σ' → (∀ vs, tgIn vs tg → L2.wipe σ' vs = L2.wipe σ vs) → Q σ' H) : gOf C.K tg x σ H Q := by
  cases tg with
  | one i =>
    cases h
    exact q _ (en.setI r) fun vs h => set_wipe h σ
  | tup is =>
    cases d <;> simp only [bindTg] at h <;> (first | cases h | skip)
    split at h
    · rename_i hl
      cases h
      cases r with
      | tup hs z t => exact ⟨_, _, rfl, k.sub.sqT hs, by rw [t.length, hl], gs_ok t hl en q⟩
    · cases h
end
/-! ### a list comprehension -/
abbrev W0 : WX := fun _ _ _ _ => False
section
variable {C : Cn} {W : WX} {σ : Sg} {F : Hp} {L : List Addr} {H : Hp} {α β γ : Type}
theorem R.bind_assoc (r : R α) (f : α → Sto → R β) (g : β → Sto → R γ) : (r.bind f).bind g = r.bind fun a s => (f a s).bind g := by cases r <;> rfl
theorem Rn.nox {σ' : Sg} {r : R α} {P : Hp → List Addr → Hp → Sto → α → Prop} (h : Rn C W σ F L H r.nox P) : Rn C W0 σ' F L H r P := by
  cases r with
  | ok a s => exact h
  | exc x s => exact False.elim h
  | stuck => exact False.elim h
end
section
variable {C : Cn} {F : Hp} {L : List Addr} {H : Hp} {S : Sto} {p : Addr} {o : HO}
theorem Ok.updNew (k : Ok C F L H S) (f : F p = none) (l : p ∉ L) : Ok C F L (upd H p o) S where
  sub := fun a u e => by
    have z : a ≠ p := by rintro rfl; rw [f] at e; cases e
    rw [upd_ne z]; exact k.sub a u e
  fl := k.fl
  nd := k.nd
  len := k.len
  cells := fun m c e => by
    obtain ⟨a, h1, h2⟩ := k.cells m c e
    refine ⟨a, h1, h2.up (Sub.refl _) (List.prefix_refl _) ?_⟩
    have z : a ≠ p := by rintro rfl; exact l (List.mem_of_getElem? h1)
    rw [upd_ne z]
theorem Ext.updNew {F1 : Hp} {L1 : List Addr} {H1 : Hp} (e : Ext F L H F1 L1 H1) (n : H p = none) : Ext F L H F1 L1 (upd H1 p o) where
  ff := e.ff
  ll := e.ll
  keep := fun a u h z => by rw [upd_ne (ne_of_none h n)]; exact e.keep a u h z
  there := fun a h z => by
    by_cases ha : a = p
    · subst ha; rw [upd_same]; simp
    · rw [upd_ne ha]; exact e.there a h z
  nF := e.nF
  nL := e.nL
end
section
variable {C : Cn} {W : WX} {X : Cx} {elt tg iter : Expr} {ifs : List Expr} {scope : Scope} {own : List (Str × Nat)} {pos : Pos} {msrc : Env' → Sto → R (List D)} {tgt' : Tg} {mif : Env' → Sto → R Bool} {me : Env' → Sto → R D}
/-- one turn of it -/
def turnF (own : List Nat) (tg : Tg) (mif : Env' → Sto → R Bool) (me : Env' → Sto → R D) (ρ : Env') (d : D) (s : Sto) : R (Option D) :=
  (R.of (bindTg (wipeE ρ own) tg d) s).bind fun ρ' s => (mif ρ' s).bind fun t s => if t then (me ρ' s).bind fun e s => .ok (some e) s else .ok none s
theorem Rn.split {σ σ' : Sg} {F F' : Hp} {L L' : List Addr} {H H' : Hp} {α β : Type} {r : R α} {g : α → Sto → R β} {P : Hp → List Addr → Hp → Sto → β → Prop} (h : Rn C W σ F L H (r.nox.bind g) P) : Rn C W0 σ' F' L' H' r (fun _ _ _ S3 o => Rn C W σ F L H (g o S3) P) := by
  cases r with
  | ok a s => exact fun _ _ _ _ _ => h
  | exc x s => exact False.elim h
  | stuck => exact False.elim h
theorem lc_read {σ : Sg} {H : Hp} {Q : VK} {vs : List Nat} (hin : tgIn vs tgt') (q : tE C W .fr (fun ρ s => (msrc ρ s).bind fun ds s => (compLoop (turnF vs tgt' mif me ρ) ds s).bind fun es s => .ok (.lst es) s) σ H Q) : tLc (tI C W false msrc) (gOf C.K tgt') (tT C W0 mif) (tE C W0 .rep me) vs σ H Q := by
  obtain ⟨F, L, S, ρ, k, en, q⟩ := q
  refine ⟨F, L, S, ρ, k, en, q.bind.imp fun F1 L1 H1 S1 ds e1 k1 q1 J hJ => ?_⟩
  intro A nA
  have en1 := en.ext e1
  -- the invariant
  refine ⟨fun i m H' => m = ds.length - i ∧ i ≤ ds.length ∧ ∃ F' L' S' acc done, Ext F1 L1 H1 F' L' H' ∧ Ok C F' L' H' S' ∧ H' A = some (.lst acc) ∧ F' A = none ∧ A ∉ L' ∧ RepAll C F' L' acc done ∧ acc.length ≤ i ∧
    Rn C W σ F1 L1 H1 ((compLoop (turnF vs tgt' mif me ρ) (ds.drop i) S').bind fun es s => .ok (.lst (done ++ es)) s) (fun F' L' H' _ d => ∀ v, Vok C F' L' H H' .fr v d → Q v H'), ⟨ds.length, by simp, Nat.zero_le _, F1, L1, S1, [], [], ?_⟩, ?_⟩
  · refine ⟨(Ext.refl _ _ _).laid nA, k1.laid nA, upd_same, k1.notF nA, k1.notL nA, .nil, Nat.le_refl _, ?_⟩
    rw [List.drop_zero]
    exact q1
  · rintro i m H' ⟨rfl, hi, F', L', S', acc, done, x1, k', hA, fA, lA, racc, hacc, q'⟩
    by_cases hlt : i < ds.length
    · refine .inr ⟨hJ.go i F' L' H' S' (tgt.of x1) k' hlt, fun H2 => i + 1 ≤ ds.length ∧ ∃ F' L' S' acc done, Ext F1 L1 H1 F' L' H2 ∧ Ok C F' L' H2 S' ∧ H2 A = some (.lst acc) ∧ F' A = none ∧ A ∉ L' ∧ RepAll C F' L' acc done ∧ acc.length ≤ i + 1 ∧
        Rn C W σ F1 L1 H1 ((compLoop (turnF vs tgt' mif me ρ) (ds.drop (i + 1)) S').bind fun es s => .ok (.lst (done ++ es)) s) (fun F' L' H' _ d => ∀ v, Vok C F' L' H H' .fr v d → Q v H'), fun H2 h => ⟨ds.length - (i + 1), by omega, rfl, h⟩, fun x H2 y => ?_⟩
      have hd : ds[i]? = some ds[i] := List.getElem?_eq_getElem hlt
      obtain ⟨F2, x2, k2, r2⟩ := hJ.yld i F' L' H' S' ds[i] (tgt.of x1) k' hd x H2 y
      have hdrop : ds.drop i = ds[i] :: ds.drop (i + 1) := List.drop_eq_getElem_cons hlt
      rw [hdrop] at q'
      simp only [compLoop, R.bind_assoc] at q'
      have q3 := Rn.split (σ' := σ) (F' := F2) (L' := L') (H' := H2) q'
      rw [turnF] at q3
      obtain ⟨ρ', hρ, q4⟩ := q3.bind.of
      have q4 := q4.now k2
      have keepA : ∀ {F3 : Hp} {L3 : List Addr} {H3 : Hp}, Ext F' L' H' F3 L3 H3 → H3 A = some (.lst acc) ∧ F3 A = none ∧ A ∉ L3 := fun {F3 L3 H3} e => by
        refine ⟨e.keep _ _ hA lA, ?_, fun z => (e.nL _ z).elim lA fun w => by rw [hA] at w; cases w⟩
        cases q : F3 A with
        | none => rfl
        | some o => rcases e.nF A o q with w | w
                    · rw [fA] at w; cases w
                    · rw [hA] at w; cases w
      refine g_ok k2 r2 hρ (((en1.ext x1).ext x2).wipe vs) fun σ2 en2 hw => ⟨by rw [hw _ hin, wipe_wipe σ _ _ fun _ h => h], ?_⟩
      have q4' : Rn C W0 σ2 F2 L' H2 (mif ρ' S') _ := Rn.wish q4.bind (fun _ _ _ z => z)
      refine ⟨F2, L', S', ρ', k2, en2, q4'.imp fun F3 L3 H3 S3 t e3 k3 q5 => ?_⟩
      cases t with
      | false =>
        refine iteF ⟨hlt, F3, L3, S3, acc, done, (x1.trans x2).trans e3, k3, (keepA (x2.trans e3)).1, (keepA (x2.trans e3)).2.1, (keepA (x2.trans e3)).2.2, racc.up (x2.trans e3).ff (x2.trans e3).ll, by omega, ?_⟩
        have q6 := q5.now k3
        simpa only [R.bind_ok] using q6
      | true =>
        have q5' : Rn C W0 σ2 F3 L3 H3 (me ρ' S3) _ := Rn.wish q5.bind (fun _ _ _ z => z)
        refine iteT ⟨F3, L3, S3, ρ', k3, en2.ext e3, q5'.imp fun F4 L4 H4 S4 e e4 k4 q6 v r4 => ?_⟩
        have ex := (x2.trans e3).trans e4
        obtain ⟨a1, a2, a3⟩ := keepA ex
        have hz : acc.length < sizeLine := by have := hJ.len; omega
        refine ⟨acc, a1, hz, hlt, F4, L4, S4, acc ++ [v], done ++ [e], ?_, k4.updNew a2 a3, upd_same, a2, a3, (racc.up ex.ff ex.ll).snoc r4, by rw [List.length_append]; simp; omega, ?_⟩
        · exact (((x1.trans x2).trans e3).trans e4).updNew nA
        · have q7 := q6.now k4
          simp only [R.bind_ok] at q7
          simpa only [List.append_assoc, List.singleton_append] using q7
    · have e : i = ds.length := by omega
      subst e
      rw [List.drop_length] at q'
      simp only [compLoop, R.bind_ok, List.append_nil] at q'
      exact .inl ⟨hJ.stop _ F' L' H' S' (tgt.of x1) k' (Nat.le_refl _), q' _ _ _ x1 k' _ (Vok.fr (.lst (e1.none_of nA) hA (by have := hJ.len; omega) fA lA racc))⟩
theorem m_comp (hK : X.K = C.K) (hc : X.calm = true) (hN : X.N.Nodup) (hi : PI X tg iter (tI C W false msrc)) (ok : BlkOk X.N X.env.scope scope own)
    (hin : tgIn (own.map (·.2)) tgt')
    (hg : ∀ (s : Shared) (H : Hp) (A : Addr) (cl : List (Str × Addr)) (fp : List Addr), PG (X.blk s H scope (compEnvC scope cl A X.env) fp) tg (gOf C.K tgt'))
    (ht : ∀ (s : Shared) (H : Hp) (A : Addr) (cl : List (Str × Addr)) (fp : List Addr), PTs (X.blk s H scope (compEnvC scope cl A X.env) fp) ifs (tT C W0 mif))
    (he : ∀ (s : Shared) (H : Hp) (A : Addr) (cl : List (Str × Addr)) (fp : List Addr), PE (X.blk s H scope (compEnvC scope cl A X.env) fp) elt (tE C W0 .rep me)) (hs : ∀ x, foldedSetIterable iter X.env x = pure x) :
    PE X (.ListComp elt [⟨tg, iter, ifs, 0⟩] scope pos) (tE C W .fr fun ρ s => (msrc ρ s).bind fun ds s => (compLoop (turnF (own.map (·.2)) tgt' mif me ρ) ds s).bind fun es s => .ok (.lst es) s) := by
  exact PE.imp (pe_lc hc hN hi ok hg ht he hs) fun σ H Q q => lc_read hin q
end
end MP

/-! MP: isinstance, fields, methods, dicts. -/
namespace MP
open PySem PySem.Spec PyProof.Rows L2
def tyName : Ty → String
  | .int => "int" | .bool => "bool" | .str => "str" | .tup => "tuple" | .lst => "list" | .dic => "dict"
def dTy : D → Option String
  | .non => some "NoneType" | .bl _ => some "bool" | .int _ => some "int" | .str _ => some "str" | .tup _ => some "tuple" | .lst _ => some "list" | .dic _ => some "dict"
  | _ => none
theorem kit_tab : ∀ n ∈ ["NoneType", "bool", "int", "str", "tuple", "list", "dict"], ∀ t ∈ ["int", "bool", "str", "tuple", "list", "dict"], kitB n t = some (n == t || (n == "bool" && t == "int")) := by decide +kernel
theorem kit_of {d : D} {n : String} (t : Ty) (h : dTy d = some n) : kitB n (tyName t) = some (isTy t d) := by
  have hn : n ∈ ["NoneType", "bool", "int", "str", "tuple", "list", "dict"] := by
    cases d <;> simp only [dTy, Option.some.injEq] at h <;> (first | cases h | skip) <;> simp
  have ht : tyName t ∈ ["int", "bool", "str", "tuple", "list", "dict"] := by cases t <;> simp [tyName]
  rw [kit_tab n hn _ ht]
  cases d <;> simp only [dTy, Option.some.injEq] at h <;> (first | cases h | skip) <;> cases t <;> simp [tyName, isTy]
section
variable {C : Cn} {W : WX} {X : Cx} {lv : Lv} {a b c : Expr} {pos : Pos} {ma mb mc : Env' → Sto → R D} {es : List Expr} {ms : Env' → Sto → R (List D)}
theorem tyx {F : Hp} {L : List Addr} {H : Hp} {S : Sto} {v : V} {d : D} {n : String} (k : Ok C F L H S) (x : Pk C F L H v d) (h : dTy d = some n) : TyX C.K H v (.type n) := by
  cases d <;> simp only [dTy, Option.some.injEq] at h <;> (first | cases h | skip)
  · rw [x.non]; exact .base .non
  · rw [x.bl]; exact .base (.bl _)
  · rw [x.int]; exact .base (.int _)
  · rw [x.str.1]; exact .base (.str _)
  · obtain ⟨p, vs, rfl, h1, _, _, _⟩ := x.tup k.sub
    rcases h1 with (h1 | ⟨o, h1⟩) | ⟨o, its, m, h1, h2, _⟩
    · exact .base (.tup h1)
    · exact .fTuple h1
    · exact .kTuple h1 h2
  · obtain ⟨p, vs, rfl, h1, _, _⟩ := x.list k.sub
    exact .base (.lst h1)
  · obtain ⟨p, vs, rfl, h1, _, _⟩ := x.dict k.sub
    exact .base (.dK h1)
theorem isTys_some {ts : List Ty} {x d : D} (h : isTys ts x = some d) : d = .bl (ts.any fun t => isTy t x) ∧ ∃ n, dTy x = some n := by
  cases x <;> simp only [isTys, Option.some.injEq] at h <;> (first | cases h | skip) <;> exact ⟨rfl, _, rfl⟩
theorem pe_tyN {x : Str} {n : String} {p : Pos} (hg : Gl X x) (hm : X.mg x = none) (hv : bootBuiltins x = some (.type n)) (hn : x ≠ "__name__") (hd : (x == ("__debug__" : Str)) = false) : PE X (.Name x p) (tC (.ty n)) := pe_bltn hg hm hv rfl hn hd
/-- isinstance(a, T) -/
theorem m_isi1 {t : Ty} {p p2 pp : Pos} (hK : X.K = C.K) (hg : Gl X "isinstance") (hm : X.mg "isinstance" = none) (hT : PE X b (tC (.ty (tyName t))))
    (he : starEach [a, b] X.env = [(false, eval a X.env), (false, eval b X.env)]) (he2 : starEach [b] X.env = [(false, eval b X.env)]) (ha : PE X a (tE C W .pk ma)) :
    PE X (.Call (.Name "isinstance" p) [a, b] [] pp) (tE C W .fr fun ρ s => (ma ρ s).bind fun x s => R.of (isTys [t] x) s) := by
  refine PE.imp (pe_callB call_isi hg hm (by decide +kernel) (pa_cons ha (pa_cons hT pa_nil he2) (by rw [he, he2])) (by decide) (by decide) (by rw [he, he2]) (by rw [he2]; rfl)) fun σ H Q ⟨F, L, S, ρ, k, en, q⟩ => ⟨F, L, S, ρ, k, en, q.bind.imp fun F1 L1 H1 S1 x e1 k1 q1 v r1 => ?_⟩
  obtain ⟨d, h, q1⟩ := q1.of
  obtain ⟨rfl, n, hn⟩ := isTys_some h
  refine ⟨v, .ty (tyName t), .type n, .type (tyName t), isTy t x, rfl, .ty _, by rw [hK]; exact tyx k1 r1 hn, by rw [hK]; exact kit_ty (kit_of t hn), ?_⟩
  simp only [List.any_cons, List.any_nil, Bool.or_false] at q1
  exact q1.now k1 _ (Vok.re rfl (.bl _))
/-- isinstance(a, (T, U)) -/
theorem m_isi2 {t u : Ty} {p p2 pp : Pos} {x1 : Nat} (hK : X.K = C.K) (hg : Gl X "isinstance") (hm : X.mg "isinstance" = none) (hT : PE X b (tC (.ty (tyName t)))) (hU : PE X c (tC (.ty (tyName u))))
    (he : starEach [a, .Tuple [b, c] x1 p2] X.env = [(false, eval a X.env), (false, eval (.Tuple [b, c] x1 p2) X.env)]) (heb : starEach [b, c] X.env = (false, eval b X.env) :: starEach [c] X.env) (hec : starEach [c] X.env = [(false, eval c X.env)]) (ha : PE X a (tE C W .pk ma)) :
    PE X (.Call (.Name "isinstance" p) [a, .Tuple [b, c] x1 p2] [] pp) (tE C W .fr fun ρ s => (ma ρ s).bind fun x s => R.of (isTys [t, u] x) s) := by
  refine PE.imp (pe_callB call_isiT hg hm (by decide +kernel) (pa_cons ha (pa_cons (pe_tup (pa_cons hT (pa_cons hU pa_nil hec) heb)) pa_nil rfl) (by rw [he]; rfl)) (by decide) (by decide) (by rw [he]; rfl) rfl) fun σ H Q ⟨F, L, S, ρ, k, en, q⟩ => ⟨F, L, S, ρ, k, en, q.bind.imp fun F1 L1 H1 S1 x e1 k1 q1 v r1 => ?_⟩
  obtain ⟨d, h, q1⟩ := q1.of
  obtain ⟨rfl, n, hn⟩ := isTys_some h
  refine ⟨by show 2 ≤ sizeLine; decide, fun P nP => ?_⟩
  have eL := (Ext.refl F1 L1 H1).laid (p := P) (o := .tup [.ty (tyName t), .ty (tyName u)]) nP
  have kL := k1.laid (p := P) (o := .tup [.ty (tyName t), .ty (tyName u)]) nP
  refine ⟨v, P, [.ty (tyName t), .ty (tyName u)], .type n, [.type (tyName t), .type (tyName u)], isTy t x || isTy u x, rfl, upd_same, .cons (.ty _) (.cons (.ty _) .nil), by rw [hK]; exact tyx kL (Pk.ext r1 eL) hn, ?_, ?_⟩
  · rw [hK]
    have h1 := kit_ty (K := C.K) (kit_of t hn)
    have h2 := kit_ty (K := C.K) (kit_of u hn)
    simp only [PySem.W.kitAny, h1, h2]
    cases isTy t x <;> cases isTy u x <;> rfl
  · simp only [List.any_cons, List.any_nil, Bool.or_false] at q1
    exact q1 _ _ _ eL kL _ (Vok.re rfl (.bl _))
/-! ### fields of a program -/
def fldName : Fld → Str
  | .marks => "marks" | .rows => "rows" | .shown => "shown"
structure PrgOk (C : Cn) : Prop where
  cls : Cls C.K C.cP
  no : ∀ f : Fld, NoAttr C.K C.cP (fldName f)
theorem m_fld {f : Fld} (hK : X.K = C.K) (po : PrgOk C) (hab : attributeBase a (fldName f) X.env (eval a X.env) = eval a X.env) (ha : PE X a (tE C W .pk ma)) :
    PE X (.Attribute a (fldName f) pos) (tE C W .rep fun ρ s => (ma ρ s).bind fun x s => R.of (dFld f x) s) := by
  refine PE.imp (pe_fld ha hab) fun σ H Q ⟨F, L, S, ρ, k, en, q⟩ => ⟨F, L, S, ρ, k, en, q.bind.imp fun F1 L1 H1 S1 x e1 k1 q1 v r1 => ?_⟩
  obtain ⟨d, h, q1⟩ := q1.of
  cases x <;> (first | (cases f <;> cases h; done) | skip)
  have r1 : Pk C F1 L1 H1 v _ := r1
  cases r1 with
  | rep r =>
    cases r with
    | prg hF hT z r s1 s2 =>
      have hH := k1.sub _ _ hF
      rw [hK]
      cases f with
      | marks => cases h; exact ⟨_, _, _, _, .str _, rfl, hH, po.cls, po.no .marks, by rfl, q1.now k1 _ (.str _ s1)⟩
      | rows => cases h; exact ⟨_, _, _, _, .ref _, rfl, hH, po.cls, po.no .rows, by rfl, q1.now k1 _ (.tup hT z r)⟩
      | shown => cases h; exact ⟨_, _, _, _, .str _, rfl, hH, po.cls, po.no .shown, by rfl, q1.now k1 _ (.str _ s2)⟩
/-! ### methods of texts, of a written tuple -/
theorem m_join {p apos cpos : Pos} {e : Expr} (hK : X.K = C.K) (hbase : attributeBase a "join" X.env (eval a X.env) = eval a X.env) (hline : (apos.endLine == cpos.line) = true) (hs : starEach [e] X.env = [(false, eval e X.env)])
    (ha : PE X a (tE C W .pk ma)) (hb : PE X e (tE C W .pk mb)) : PE X (.Call (.Attribute a "join" apos) [e] [] cpos) (tE C W .fr fun ρ s => (ma ρ s).bind fun x s => (R.of (asStr x) s).bind fun z s => (mb ρ s).bind fun y s => R.of (dJoin z y) s) := by
  refine PE.imp (pe_bm PySem.F.plainAttrs_str PySem.F.slot_str_join PySem.F.type_str_join mt_join ha (pa_cons hb pa_nil hs) hbase (by rw [hs]; rfl) hline (by rw [hs]; rfl) rfl) fun σ H Q ⟨F, L, S, ρ, k, en, q⟩ => ⟨F, L, S, ρ, k, en, q.bind.imp fun F1 L1 H1 S1 x e1 k1 q1 v r1 => ?_⟩
  obtain ⟨z, hz, q2⟩ := q1.bind.of
  have hx : x = .str z := by cases x <;> simp_all [asStr]
  subst hx
  have r1 : Pk C F1 L1 H1 v (.str z) := r1
  refine ⟨by rw [r1.str.1]; rfl, F1, L1, S1, ρ, k1, en.ext e1, (q2.now k1).bind.imp fun F2 L2 H2 S2 y e2 k2 q3 w r2 => ?_⟩
  obtain ⟨d, h, q3⟩ := q3.of
  cases y <;> simp only [dJoin] at h <;> (first | cases h | skip)
  rename_i ys
  cases hz : dStrs ys with
  | none => rw [hz] at h; cases h
  | some zs =>
    rw [hz, Option.bind_some] at h
    split at h
    · rename_i hl
      obtain ⟨rfl, hok⟩ := mkStr_some h
      obtain ⟨p, vs, rfl, h1, _, rr⟩ := Pk.list k2.sub r2
      have e3 := dStrs_rep rr hz
      subst e3
      exact ⟨z, p, zs, r1.str.1, rfl, .inl (SqL.of h1), hl, q3.now k2 _ (Vok.re rfl (.str _ hok))⟩
    · cases h
/-- T.index(e), T a written tuple of texts -/
structure TupK (K : PySem.W.Frag) (mg : Str → Option Value) (x : Str) (ys : List Str) : Prop where
  ex : ∃ (p : Addr) (o : Obj) (its : Array Value) (n : Nat), mg x = some (.ref p) ∧ K.lookup p = some o ∧ o.cls = .type "tuple" ∧ o.dict = none ∧ o.data = .seq its n ∧ its.size ≤ sizeLine ∧ Vals (ys.map V.str) its.toList
theorem m_cidx {x : Str} {ys : List Str} {p apos cpos : Pos} (hK : X.K = C.K) (ht : TupK X.K X.mg x ys) (hg : Gl X x) (hd : (x == ("__debug__" : Str)) = false)
    (hline : (apos.endLine == cpos.line) = true) (hs : starEach [a] X.env = [(false, eval a X.env)]) (hbase : attributeBase (.Name x p) "index" X.env (eval (.Name x p) X.env) = eval (.Name x p) X.env)
    (ha : PE X a (tE C W .pk ma)) : PE X (.Call (.Attribute (.Name x p) "index" apos) [a] [] cpos) (tE C W .fr fun ρ s => (ma ρ s).bind fun x s => R.of (dCidx ys x) s) := by
  obtain ⟨ad, o, its, n, hm, hk, hc, hdd, hdt, hz, hv⟩ := ht.ex
  have hT : ∀ H, SqT X.K H ad (ys.map V.str) := fun H => .inr ⟨o, its, n, hk, hc, hdt, hz, hv⟩
  refine PE.imp (pe_bm PySem.F.plainAttrs_tuple PySem.F.slot_tuple_index PySem.F.type_tuple_index mt_tup_index (pe_glob (v := .ref ad) hg hm rfl hd) (pa_cons ha pa_nil hs) hbase (by rw [hs]; rfl) hline (by rw [hs]; rfl) rfl) fun σ H Q ⟨F, L, S, ρ, k, en, q⟩ => ?_
  refine ⟨.inr (.inl ⟨rfl, o, hk, hc, hdd⟩), F, L, S, ρ, k, en, q.bind.imp fun F1 L1 H1 S1 y e1 k1 q1 v r1 => ?_⟩
  obtain ⟨d, h, q1⟩ := q1.of
  cases y <;> simp only [dCidx] at h <;> (first | cases h | skip)
  rename_i z
  split at h
  · rename_i hi
    cases h
    have r1 : Pk C F1 L1 H1 v (.str z) := r1
    refine ⟨ad, ys, z, ys.idxOf z, rfl, by rw [r1.str.1], hT _, ?_, fun m hm e => ?_, q1.now k1 _ (Vok.re rfl (.int _))⟩
    · rw [List.getElem?_eq_getElem hi, List.getElem_idxOf hi]
    · have hlt : m < ys.length := by omega
      have e2 : ys[m] = z := by rw [List.getElem?_eq_getElem hlt] at e; exact Option.some.inj e
      have := List.not_of_lt_findIdx (xs := ys) (p := (· == z)) (i := m) hm
      simp [e2] at this
  · cases h
/-! ### dicts with texts as keys -/
theorem kv_find {F : Hp} {L : List Addr} {z : Str} : ∀ {kvs : List (Key × V)} {ds : List (D × D)}, RepKV C F L kvs ds → (∀ d, (ds.find? fun kv => kv.1.eqv (.str z)).map (·.2) = some d → ∃ v, valV kvs (Sum.inr z) = some v ∧ Rep C F L v d)
  | _, _, .nil, d, h => by simp at h
  | _, _, .cons (x := x) (v := v) s r t, d, h => by
    unfold valV
    rw [List.find?_cons] at h ⊢
    by_cases e : x = z
    · subst e
      simp [D.eqv] at h ⊢
      exact h ▸ r
    · have e1 : (D.str x).eqv (.str z) = false := by simp [D.eqv, e]
      simp only [e1] at h
      have e2 : decide ((Sum.inr x : Key) = Sum.inr z) = false := by simp [e]
      simp only [e2]
      exact kv_find t d h
theorem m_didx (hK : X.K = C.K) (hu : X.A.units + 1 < cLine) (hs : PlainIx b) (hs2 : NoSl b) (ha : PE X a (tE C W .pk ma)) (hb : PE X b (tE C W .pk mb)) :
    PE X (.Subscript a b pos) (tE C W .rep fun ρ s => (ma ρ s).bind fun x s => (mb ρ s).bind fun y s => R.of (dIdx x y) s) := by
  refine PE.imp (PE.or (m_idx (C := C) (W := W) hK hs ha hb) (pe_dget hu ha hb hs2)) fun σ H Q ⟨F, L, S, ρ, k, en, q⟩ => ?_
  dsimp only at q
  cases e : ma ρ S with
  | exc x s => rw [e] at q; exact .inl ⟨F, L, S, ρ, k, en, by dsimp only; rw [e]; exact q⟩
  | stuck => rw [e] at q; exact .inl ⟨F, L, S, ρ, k, en, by dsimp only; rw [e]; exact q⟩
  | ok x S1 =>
    rw [e] at q
    by_cases hx : ∃ kvs, x = .dic kvs
    · obtain ⟨kvs, rfl⟩ := hx
      refine .inr ⟨F, L, S, ρ, k, en, ?_⟩
      rw [e]
      intro F1 L1 H1 e1 k1 v1 r1
      have q1 := q.bind _ _ _ e1 k1
      refine ⟨F1, L1, S1, ρ, k1, en.ext e1, q1.bind.imp fun F2 L2 H2 S2 y e2 k2 q2 v2 r2 => ?_⟩
      obtain ⟨d, h, q3⟩ := q2.of
      have hy : ∃ z, y = .str z := by cases y <;> first | exact ⟨_, rfl⟩ | cases h
      obtain ⟨z, rfl⟩ := hy
      have r1 := Pk.ext (show Pk C F1 L1 H1 v1 (.dic kvs) from r1) e2
      obtain ⟨p, kv, rfl, h1, _, rr⟩ := r1.dict k2.sub
      obtain ⟨v, h2, r3⟩ := kv_find rr d h
      have r2 : Pk C F2 L2 H2 v2 (.str z) := r2
      refine ⟨p, v, rfl, ?_, q3.now k2 _ r3⟩
      rw [r2.str.1, ← h2]
      exact DGet.k (k := Sum.inr z) h1
    · refine .inl ⟨F, L, S, ρ, k, en, ?_⟩
      dsimp only
      rw [e]
      have : ∀ y, dIdx x y = dIdx0 x y := fun y => by cases x <;> first | rfl | (exact absurd ⟨_, rfl⟩ hx)
      simpa only [R.bind_ok, this] using q
/-- {} -/
theorem m_dic0 : PE X (.Dict [] [] pos) (tE C W .fr fun _ s => .ok (.dic []) s) := by
  refine PE.imp pe_dnewK fun σ H Q ⟨F, L, S, ρ, k, en, q⟩ => fun p n => ?_
  exact q _ _ _ ((Ext.refl F L H).laid n) (k.laid n) _ (Vok.fr (.dic n upd_same (Nat.zero_le _) (k.notF n) (k.notL n) .nil))
theorem kv_any {F : Hp} {L : List Addr} {z : Str} : ∀ {kvs : List (Key × V)} {ds : List (D × D)}, RepKV C F L kvs ds → (kvs.any fun kv => decide (kv.1 = (Sum.inr z : Key))) = ds.any fun kv => kv.1.eqv (.str z)
  | _, _, .nil => rfl
  | _, _, .cons s r t => by
    simp only [List.any_cons, kv_any t]
    simp only [D.eqv, Sum.inr.injEq]
    congr 1
theorem kv_map {F : Hp} {L : List Addr} {z : Str} {v : V} {d : D} (r : Rep C F L v d) : ∀ {kvs : List (Key × V)} {ds : List (D × D)}, RepKV C F L kvs ds → RepKV C F L (kvs.map (fun kv => if kv.1 = (Sum.inr z : Key) then (kv.1, v) else kv)) (ds.map (fun kv => if kv.1.eqv (.str z) then (kv.1, d) else kv))
  | _, _, .nil => .nil
  | _, _, .cons (x := x) s r' t => by
    simp only [List.map_cons]
    by_cases e : x = z
    · subst e
      simp only [D.eqv, BEq.rfl, if_true]
      exact .cons s r (kv_map r t)
    · have e1 : (D.str x).eqv (.str z) = false := by simp [D.eqv, e]
      simp only [e1]
      rw [if_neg (by simpa using e)]
      exact .cons s r' (kv_map r t)
theorem kv_snoc {F : Hp} {L : List Addr} {z : Str} {v : V} {d : D} (hz : sOk z = true) (r : Rep C F L v d) : ∀ {kvs : List (Key × V)} {ds : List (D × D)}, RepKV C F L kvs ds → RepKV C F L (kvs ++ [(Sum.inr z, v)]) (ds ++ [(.str z, d)])
  | _, _, .nil => .cons hz r .nil
  | _, _, .cons s r' t => .cons s r' (kv_snoc hz r t)
theorem putK_rep {F : Hp} {L : List Addr} {z : Str} {v : V} {d : D} (hz : sOk z = true) (r : Rep C F L v d) {kvs : List (Key × V)} {ds : List (D × D)} (t : RepKV C F L kvs ds) : RepKV C F L (putK kvs (Sum.inr z) v) (putD ds z d) := by
  unfold putK putD
  rw [kv_any t]
  split
  · exact kv_map r t
  · exact kv_snoc hz r t
theorem putK_len (kvs : List (Key × V)) (k : Key) (v : V) : (putK kvs k v).length ≤ kvs.length + 1 := by
  unfold putK
  split <;> simp
/-- one turn of {k: v for ..} -/
def turnD (own : List Nat) (tg : Tg) (mk mv : Env' → Sto → R D) (ρ : Env') (d : D) (s : Sto) : R (D × D) :=
  (R.of (bindTg (wipeE ρ own) tg d) s).bind fun ρ' s => (mk ρ' s).bind fun k s => (mv ρ' s).bind fun v s => .ok (k, v) s
theorem m_dcomp {tg iter kx vx : Expr} {scope : Scope} {own : List (Str × Nat)} {msrc : Env' → Sto → R (List D)} {tgt' : Tg} {mk mv : Env' → Sto → R D} (hK : X.K = C.K) (hc : X.calm = true) (hN : X.N.Nodup) (hi : PI X tg iter (tI C W false msrc)) (ok : BlkOk X.N X.env.scope scope own)
    (hin : tgIn (own.map (·.2)) tgt')
    (hg : ∀ (s : Shared) (H : Hp) (A : Addr) (cl : List (Str × Addr)) (fp : List Addr), PG (X.blk s H scope (compEnvC scope cl A X.env) fp) tg (gOf C.K tgt'))
    (hk : ∀ (s : Shared) (H : Hp) (A : Addr) (cl : List (Str × Addr)) (fp : List Addr), PE (X.blk s H scope (compEnvC scope cl A X.env) fp) kx (tE C W0 .rep mk))
    (hv : ∀ (s : Shared) (H : Hp) (A : Addr) (cl : List (Str × Addr)) (fp : List Addr), PE (X.blk s H scope (compEnvC scope cl A X.env) fp) vx (tE C W0 .rep mv)) (hs : ∀ x, foldedSetIterable iter X.env x = pure x) :
    PE X (.DictComp kx vx [⟨tg, iter, [], 0⟩] scope pos) (tE C W .fr fun ρ s => (msrc ρ s).bind fun ds s => (dcompLoop (turnD (own.map (·.2)) tgt' mk mv ρ) [] ds s).bind fun es s => .ok (.dic es) s) := by
  refine PE.imp (pe_dc hc hN hi ok hg (fun _ _ _ _ _ => pts_nil) hk hv hs) fun σ H Q ⟨F, L, S, ρ, k, en, q⟩ => ⟨F, L, S, ρ, k, en, q.bind.imp fun F1 L1 H1 S1 ds e1 k1 q1 J hJ => ?_⟩
  intro A nA
  have en1 := en.ext e1
  refine ⟨fun i m H' => m = ds.length - i ∧ i ≤ ds.length ∧ ∃ F' L' S' acc done, Ext F1 L1 H1 F' L' H' ∧ Ok C F' L' H' S' ∧ H' A = some (.dK acc) ∧ F' A = none ∧ A ∉ L' ∧ RepKV C F' L' acc done ∧ acc.length ≤ i ∧
    Rn C W σ F1 L1 H1 ((dcompLoop (turnD (own.map (·.2)) tgt' mk mv ρ) done (ds.drop i) S').bind fun es s => .ok (.dic es) s) (fun F' L' H' _ d => ∀ v, Vok C F' L' H H' .fr v d → Q v H'), ⟨ds.length, by simp, Nat.zero_le _, F1, L1, S1, [], [], ?_⟩, ?_⟩
  · refine ⟨(Ext.refl _ _ _).laid nA, k1.laid nA, upd_same, k1.notF nA, k1.notL nA, .nil, Nat.le_refl _, ?_⟩
    rw [List.drop_zero]
    exact q1
  · rintro i m H' ⟨rfl, hi, F', L', S', acc, done, x1, k', hA, fA, lA, racc, hacc, q'⟩
    by_cases hlt : i < ds.length
    · refine .inr ⟨hJ.go i F' L' H' S' (tgt.of x1) k' hlt, fun H2 => i + 1 ≤ ds.length ∧ ∃ F' L' S' acc done, Ext F1 L1 H1 F' L' H2 ∧ Ok C F' L' H2 S' ∧ H2 A = some (.dK acc) ∧ F' A = none ∧ A ∉ L' ∧ RepKV C F' L' acc done ∧ acc.length ≤ i + 1 ∧
        Rn C W σ F1 L1 H1 ((dcompLoop (turnD (own.map (·.2)) tgt' mk mv ρ) done (ds.drop (i + 1)) S').bind fun es s => .ok (.dic es) s) (fun F' L' H' _ d => ∀ v, Vok C F' L' H H' .fr v d → Q v H'), fun H2 h => ⟨ds.length - (i + 1), by omega, rfl, h⟩, fun x H2 y => ?_⟩
      have hd : ds[i]? = some ds[i] := List.getElem?_eq_getElem hlt
      obtain ⟨F2, x2, k2, r2⟩ := hJ.yld i F' L' H' S' ds[i] (tgt.of x1) k' hd x H2 y
      have hdrop : ds.drop i = ds[i] :: ds.drop (i + 1) := List.drop_eq_getElem_cons hlt
      rw [hdrop] at q'
      simp only [dcompLoop, R.bind_assoc] at q'
      have q3 := Rn.split (σ' := σ) (F' := F2) (L' := L') (H' := H2) q'
      rw [turnD] at q3
      obtain ⟨ρ', hρ, q4⟩ := q3.bind.of
      have q4 := q4.now k2
      have keepA : ∀ {F3 : Hp} {L3 : List Addr} {H3 : Hp}, Ext F' L' H' F3 L3 H3 → H3 A = some (.dK acc) ∧ F3 A = none ∧ A ∉ L3 := fun {F3 L3 H3} e => by
        refine ⟨e.keep _ _ hA lA, ?_, fun z => (e.nL _ z).elim lA fun w => by rw [hA] at w; cases w⟩
        cases q : F3 A with
        | none => rfl
        | some o => rcases e.nF A o q with w | w
                    · rw [fA] at w; cases w
                    · rw [hA] at w; cases w
      refine g_ok k2 r2 hρ (((en1.ext x1).ext x2).wipe (own.map (·.2))) fun σ2 en2 hw => ⟨by rw [hw _ hin, wipe_wipe σ _ _ fun _ h => h], ?_⟩
      simp only [tYes, if_true]
      have q4' : Rn C W0 σ2 F2 L' H2 (mk ρ' S') _ := Rn.wish q4.bind (fun _ _ _ z => z)
      refine ⟨F2, L', S', ρ', k2, en2, q4'.imp fun F3 L3 H3 S3 kd e3 k3 q5 vk rk => ?_⟩
      have q5' : Rn C W0 σ2 F3 L3 H3 (mv ρ' S3) _ := Rn.wish q5.bind (fun _ _ _ z => z)
      refine ⟨F3, L3, S3, ρ', k3, en2.ext e3, q5'.imp fun F4 L4 H4 S4 e e4 k4 q6 v r4 => ?_⟩
      have q7 := q6.now k4
      have ex := (x2.trans e3).trans e4
      obtain ⟨a1, a2, a3⟩ := keepA ex
      have hz : acc.length < sizeLine := by have := hJ.len; omega
      have hk : ∃ z, kd = .str z := by cases kd <;> first | exact ⟨_, rfl⟩ | exact False.elim q7
      obtain ⟨z, rfl⟩ := hk
      have rk : Pk C F3 L3 H3 vk (.str z) := .rep rk
      refine ⟨acc, Sum.inr z, rk.str.1, a1, hz, hlt, F4, L4, S4, putK acc (Sum.inr z) v, putD done z e, ?_, k4.updNew a2 a3, upd_same, a2, a3, putK_rep rk.str.2 r4 (racc.up ex.ff ex.ll), Nat.le_trans (putK_len _ _ _) (by omega), q7⟩
      exact (((x1.trans x2).trans e3).trans e4).updNew nA
    · have e : i = ds.length := by omega
      subst e
      rw [List.drop_length] at q'
      simp only [dcompLoop, R.bind_ok] at q'
      exact .inl ⟨hJ.stop _ F' L' H' S' (tgt.of x1) k' (Nat.le_refl _), q' _ _ _ x1 k' _ (Vok.fr (.dic (e1.none_of nA) hA (by have := hJ.len; omega) fA lA racc))⟩
end
end MP

/-! MP: statements. -/
namespace MP
open PySem PySem.Spec PyProof.Rows L2
/-- own names hold things that are new since H0 -/
def OwnNew (H0 : Hp) (ρ : Env') (σ : Sg) : Prop := ∀ (i : Nat) (d : D) (v : V), ρ[i]? = some (.own d) → σ[i]? = some (some v) → ∃ p, v = .ref p ∧ H0 p = none
def Grow (F : Hp) (L : List Addr) (F' : Hp) (L' : List Addr) : Prop := Sub F F' ∧ L <+: L'
theorem Grow.refl (F : Hp) (L : List Addr) : Grow F L F L := ⟨Sub.refl F, List.prefix_refl L⟩
theorem Grow.trans {F F1 F2 : Hp} {L L1 M : List Addr} (a : Grow F L F1 L1) (b : Grow F1 L1 F2 M) : Grow F L F2 M := ⟨a.1.trans b.1, a.2.trans b.2⟩
theorem Ext.grow {F F1 : Hp} {L L1 : List Addr} {H H1 : Hp} (a : Ext F L H F1 L1 H1) : Grow F L F1 L1 := ⟨a.ff, a.ll⟩
/-- what is wanted of a statement's run -/
def Sn (C : Cn) (F0 : Hp) (L0 : List Addr) (H0 : Hp) (Fs : Hp) (Ls : List Addr) (W : WX) (lv : Lv) (D' : Ends) (r : RS) : Prop := match r with
  | .nx ρ' S' => ∀ F' L' H' σ', Ext F0 L0 H0 F' L' H' → Grow Fs Ls F' L' → Ok C F' L' H' S' → EnvOk C F' L' H' ρ' σ' → OwnNew H0 ρ' σ' → D'.nx σ' H'
  | .ret d S' => ∀ F' L' H' v, Ext F0 L0 H0 F' L' H' → Ok C F' L' H' S' → Vok C F' L' H0 H' lv v d → D'.rt v H'
  | .exc x ρ' S' => ∀ F' L' H' dx σ', Ext F0 L0 H0 F' L' H' → Grow Fs Ls F' L' → Ok C F' L' H' S' → XOk C F' L' H' x dx → EnvOk C F' L' H' ρ' σ' → OwnNew H0 ρ' σ' → W (.ref (C.cx x.c)) dx σ' H'
  | .stuck => False
def tS (C : Cn) (F0 : Hp) (L0 : List Addr) (H0 : Hp) (W : WX) (lv : Lv) (m : Env' → Sto → RS) : TS := fun D' σ H => ∃ F L S ρ, Ext F0 L0 H0 F L H ∧ Ok C F L H S ∧ EnvOk C F L H ρ σ ∧ OwnNew H0 ρ σ ∧ Sn C F0 L0 H0 F L W lv D' (m ρ S)
theorem PS.imp {X : Cx} {st : Stmt} {t t' : TS} (h : PS X st t) (f : ∀ D' σ H, t' D' σ H → t D' σ H) : PS X st t' := ⟨fun pins s σ H D' I q => h.run pins s σ H D' I (f D' σ H q)⟩
theorem PSs.imp {X : Cx} {st : List Stmt} {t t' : TS} (h : PSs X st t) (f : ∀ D' σ H, t' D' σ H → t D' σ H) : PSs X st t' := ⟨fun pins s σ H D' I q => h.run pins s σ H D' I (f D' σ H q)⟩
section
variable {C : Cn} {F0 : Hp} {L0 : List Addr} {H0 : Hp} {W : WX} {X : Cx} {lv lw : Lv} {a b c : Expr} {pos : Pos} {ma mb mc : Env' → Sto → R D} {F F' : Hp} {L L' : List Addr} {H H' : Hp} {S : Sto} {ρ ρ' : Env'} {σ σ' : Sg} {D' : Ends}
theorem ps_cong {st : Stmt} {m m' : Env' → Sto → RS} (p : PS X st (tS C F0 L0 H0 W lv m)) (h : ∀ ρ s, m' ρ s = m ρ s) : PS X st (tS C F0 L0 H0 W lv m') :=
  PS.imp p fun D' σ H ⟨F, L, S, ρ, x, k, en, ow, q⟩ => ⟨F, L, S, ρ, x, k, en, ow, by rw [← h]; exact q⟩
theorem pss_cong {st : List Stmt} {m m' : Env' → Sto → RS} (p : PSs X st (tS C F0 L0 H0 W lv m)) (h : ∀ ρ s, m' ρ s = m ρ s) : PSs X st (tS C F0 L0 H0 W lv m') :=
  PSs.imp p fun D' σ H ⟨F, L, S, ρ, x, k, en, ow, q⟩ => ⟨F, L, S, ρ, x, k, en, ow, by rw [← h]; exact q⟩
/-- an expression's run within a statement -/
theorem Sn.of {Fs : Hp} {Ls : List Addr} {α : Type} {r : R α} {f : α → Sto → RS} (x : Ext F0 L0 H0 F L H) (en : EnvOk C F L H ρ σ) (ow : OwnNew H0 ρ σ) (g : Grow Fs Ls F L) (q : Sn C F0 L0 H0 Fs Ls W lv D' (RS.of r ρ f)) : Rn C W σ F L H r fun F' L' H' S' a => Ext F0 L0 H0 F' L' H' ∧ EnvOk C F' L' H' ρ σ ∧ Grow Fs Ls F' L' ∧ Sn C F0 L0 H0 Fs Ls W lv D' (f a S') := by
  cases r with
  | ok a s => exact fun F' L' H' e k => ⟨x.trans e, en.ext e, g.trans e.grow, q⟩
  | exc y s => exact fun F' L' H' dx e k o => q _ _ _ _ _ (x.trans e) (g.trans e.grow) k o (en.ext e) ow
  | stuck => exact q
theorem Sn.got {Fs : Hp} {Ls : List Addr} {α : Type} {o : Option α} {f : α → Sto → RS} (q : Sn C F0 L0 H0 Fs Ls W lv D' (RS.of (R.of o S) ρ f)) : ∃ a, o = some a ∧ Sn C F0 L0 H0 Fs Ls W lv D' (f a S) := by
  cases o with
  | none => exact False.elim q
  | some a => exact ⟨a, rfl, q⟩
theorem Sn.from {Fs Fs' : Hp} {Ls Ls' : List Addr} {r : RS} (g : Grow Fs Ls Fs' Ls') (q : Sn C F0 L0 H0 Fs Ls W lv D' r) : Sn C F0 L0 H0 Fs' Ls' W lv D' r := by
  cases r with
  | nx ρ s => exact fun F' L' H' σ' x g' => q F' L' H' σ' x (g.trans g')
  | ret d s => exact q
  | exc y ρ s => exact fun F' L' H' dx σ' x g' => q F' L' H' dx σ' x (g.trans g')
  | stuck => exact q
theorem OwnNew.setI {i : Nat} {x : Option V} {d : D} (ow : OwnNew H0 ρ σ) : OwnNew H0 (setI ρ i d) (σ.set i x) := fun j e v h1 h2 => by
  unfold MP.setI at h1
  have hj : i ≠ j := by
    rintro rfl
    rw [List.getElem?_set_self'] at h1
    cases e : ρ[i]? <;> rw [e] at h1 <;> cases h1
  rw [List.getElem?_set_ne hj] at h1 h2
  exact ow j e v h1 h2
theorem OwnNew.setAll : ∀ {is : List Nat} {ds : List D} {vs : List V} {ρ : Env'} {σ : Sg}, OwnNew H0 ρ σ → vs.length = ds.length → OwnNew H0 (setAll ρ is ds) ((is.zip vs).foldl (fun s p => s.set p.1 (some p.2)) σ)
  | [], _, _, _, _, ow, _ => by simpa [MP.setAll] using ow
  | _ :: _, [], [], _, _, ow, _ => by simpa [MP.setAll] using ow
  | i :: is, d :: ds, v :: vs, ρ, σ, ow, h => by
    simp only [MP.setAll, List.zip_cons_cons, List.foldl_cons]
    exact OwnNew.setAll ow.setI (by simpa using h)
  | _ :: _, _ :: _, [], _, _, _, h => by simp at h
  | _ :: _, [], _ :: _, _, _, _, h => by simp at h
theorem Ext.back {a : Addr} (x : Ext F0 L0 H0 F L H) (h : H a = none) : H0 a = none := x.none_of h
/-! ### a block -/
theorem m_nil : PSs X [] (tS C F0 L0 H0 W lv fun ρ s => .nx ρ s) := PSs.imp pss_nil fun D' σ H ⟨F, L, S, ρ, x, k, en, ow, q⟩ => q _ _ _ _ x (Grow.refl _ _) k en ow
theorem m_cons {st : Stmt} {sts : List Stmt} {m : Env' → Sto → RS} {ms : Env' → Sto → RS} (h : PS X st (tS C F0 L0 H0 W lv m)) (hs : PSs X sts (tS C F0 L0 H0 W lv ms)) : PSs X (st :: sts) (tS C F0 L0 H0 W lv fun ρ s => (m ρ s).seq fun ρ' s' => ms ρ' s') := by
  refine PSs.imp (pss_cons h hs) fun D' σ H ⟨F, L, S, ρ, x, k, en, ow, q⟩ => ⟨F, L, S, ρ, x, k, en, ow, ?_⟩
  dsimp only at q
  cases e : m ρ S with
  | nx ρ' S' => rw [e] at q; exact fun F' L' H' σ' x' g' k' en' ow' => ⟨F', L', S', ρ', x', k', en', ow', q.from g'⟩
  | ret d S' => rw [e] at q; exact q
  | exc y ρ' S' => rw [e] at q; exact q
  | stuck => rw [e] at q; exact q
/-! ### stores -/
/-- x = e by any rule: te is what its reading leans on -/
theorem s_asg {st : Stmt} {i : Nat} {te : TE} (h : PS X st (tAsg te (gName i))) (ht : ∀ σ H Q, tE C W .rep ma σ H Q → te σ H Q) : PS X st (tS C F0 L0 H0 W lv fun ρ s => RS.of (ma ρ s) ρ fun d s => .nx (setI ρ i d) s) := by
  refine PS.imp h fun D' σ H ⟨F, L, S, ρ, x, k, en, ow, q⟩ => ht _ _ _ ⟨F, L, S, ρ, k, en, (Sn.of x en ow (Grow.refl _ _) q).imp fun F1 L1 H1 S1 d e1 k1 ⟨x1, en1, g1, q1⟩ v r => ?_⟩
  exact q1 _ _ _ _ x1 g1 k1 (en1.setI r) ow.setI
theorem Fr.own {v : V} {d : D} (x : Fr C F L H0 H v d) : Fr C F L (fun _ => none) H v d := by
  cases x with
  | lst n a b c d e => exact .lst rfl a b c d e
  | dic n a b c d e => exact .dic rfl a b c d e
/-- where a fresh thing stands -/
theorem Fr.at_ {v : V} {d : D} (x : Fr C F L H' H v d) : ∃ p o, v = .ref p ∧ H p = some o ∧ H' p = none ∧ F p = none ∧ p ∉ L := by
  cases x with
  | lst n a b c d e => exact ⟨_, _, rfl, a, n, c, d⟩
  | dic n a b c d e => exact ⟨_, _, rfl, a, n, c, d⟩
theorem set_get {α : Type} {l : List α} {i j : Nat} {x y : α} (h : (l.set i x)[j]? = some y) : (i = j ∧ x = y ∧ j < l.length) ∨ (i ≠ j ∧ l[j]? = some y) := by
  by_cases hj : i = j
  · subst hj
    rw [List.getElem?_set_self'] at h
    cases e : l[i]? with
    | none => rw [e] at h; cases h
    | some w => rw [e] at h; cases h; exact .inl ⟨rfl, rfl, (List.getElem?_eq_some_iff.mp e).1⟩
  · rw [List.getElem?_set_ne hj] at h
    exact .inr ⟨hj, h⟩
theorem EnvOk.setO {F1 : Hp} {L1 : List Addr} {H1 : Hp} {i : Nat} {v : V} {d : D} (en : EnvOk C F L H ρ σ) (en1 : EnvOk C F1 L1 H1 ρ σ) (r : Fr C F1 L1 H H1 v d) : EnvOk C F1 L1 H1 (setO ρ i d) (σ.set i (some v)) where
  len := by unfold MP.setO; rw [List.length_set, List.length_set]; exact en.len
  slot := fun j z x h1 h2 => by
    unfold MP.setO at h1
    rcases set_get h1 with ⟨e1, rfl, _⟩ | ⟨n1, h1⟩
    · rcases set_get h2 with ⟨_, rfl, _⟩ | ⟨n2, _⟩
      · exact ⟨v, rfl, r.own⟩
      · exact absurd e1 n2
    · rcases set_get h2 with ⟨e2, _, _⟩ | ⟨_, h2⟩
      · exact absurd e2 n1
      · exact en1.slot j z x h1 h2
  sep := fun j k e e' w h1 h2 h3 h4 => by
    unfold MP.setO at h1 h2
    have other : ∀ {m : Nat} {e : D} {w : V}, ρ[m]? = some (.own e) → σ[m]? = some (some w) → w ≠ v := fun {m e w} q1 q2 q3 => by
      obtain ⟨w', q4, q5⟩ := en.own q1
      rw [q2] at q4
      cases q4
      obtain ⟨p, o, rfl, q6, _⟩ := q5.at_
      obtain ⟨p', o', q7, _, q8, _⟩ := r.at_
      have q9 := q3.trans q7
      cases q9
      rw [q6] at q8
      cases q8
    rcases set_get h1 with ⟨a1, _, _⟩ | ⟨n1, h1⟩ <;> rcases set_get h2 with ⟨a2, _, _⟩ | ⟨n2, h2⟩
    · exact a1.symm.trans a2
    · rcases set_get h3 with ⟨_, b1, _⟩ | ⟨z, _⟩
      · rcases set_get h4 with ⟨z, _⟩ | ⟨_, h4⟩
        · exact absurd z n2
        · cases b1; exact absurd rfl (other h2 h4)
      · exact absurd a1 z
    · rcases set_get h4 with ⟨_, b1, _⟩ | ⟨z, _⟩
      · rcases set_get h3 with ⟨z, _⟩ | ⟨_, h3⟩
        · exact absurd z n1
        · cases b1; exact absurd rfl (other h1 h3)
      · exact absurd a2 z
    · rcases set_get h3 with ⟨z, _⟩ | ⟨_, h3⟩
      · exact absurd z n1
      · rcases set_get h4 with ⟨z, _⟩ | ⟨_, h4⟩
        · exact absurd z n2
        · exact en.sep j k e e' w h1 h2 h3 h4
theorem EnvOk.upd {i : Nat} {p : Addr} {o : HO} {d d' : D} (en : EnvOk C F L H ρ σ) (hi : ρ[i]? = some (.own d)) (hs : σ[i]? = some (some (.ref p))) (new : Fr C F L (fun _ => none) (upd H p o) (.ref p) d') : EnvOk C F L (upd H p o) (MP.setO ρ i d') σ where
  len := by unfold MP.setO; rw [List.length_set]; exact en.len
  slot := fun j z x h1 h2 => by
    unfold MP.setO at h1
    rcases set_get h1 with ⟨rfl, rfl, _⟩ | ⟨n1, h1⟩
    · rw [hs] at h2; cases h2; exact ⟨_, rfl, new⟩
    · have q := en.slot j z x h1 h2
      cases z with
      | no => trivial
      | imm e => exact q
      | own e =>
        obtain ⟨w, rfl, q⟩ := q
        refine ⟨w, rfl, ?_⟩
        have ne : w ≠ .ref p := fun z => by
          subst z
          exact n1 (en.sep i j d e _ hi h1 hs h2)
        cases q with
        | lst n a b c d e => exact .lst n (by rw [upd_ne fun z => ne (by rw [z])]; exact a) b c d e
        | dic n a b c d e => exact .dic n (by rw [upd_ne fun z => ne (by rw [z])]; exact a) b c d e
  sep := fun j k e e' w h1 h2 h3 h4 => by
    unfold MP.setO at h1 h2
    have h1' : ∃ e, ρ[j]? = some (.own e) := by
      rcases set_get h1 with ⟨rfl, _, _⟩ | ⟨_, h⟩
      · exact ⟨d, hi⟩
      · exact ⟨_, h⟩
    have h2' : ∃ e, ρ[k]? = some (.own e) := by
      rcases set_get h2 with ⟨rfl, _, _⟩ | ⟨_, h⟩
      · exact ⟨d, hi⟩
      · exact ⟨_, h⟩
    obtain ⟨e1, h1'⟩ := h1'
    obtain ⟨e2, h2'⟩ := h2'
    exact en.sep j k e1 e2 w h1' h2' h3 h4
theorem OwnNew.setO {i : Nat} {v : V} {d : D} {p : Addr} (ow : OwnNew H0 ρ σ) (hv : v = .ref p) (n : H0 p = none) : OwnNew H0 (MP.setO ρ i d) (σ.set i (some v)) := fun j e w h1 h2 => by
  unfold MP.setO at h1
  rcases set_get h1 with ⟨e1, _, _⟩ | ⟨n1, h1⟩
  · rcases set_get h2 with ⟨_, b, _⟩ | ⟨n2, _⟩
    · cases b; exact ⟨p, hv, n⟩
    · exact absurd e1 n2
  · rcases set_get h2 with ⟨e2, _, _⟩ | ⟨_, h2⟩
    · exact absurd e2 n1
    · exact ow j e w h1 h2
theorem OwnNew.upd {i : Nat} {d d' : D} (ow : OwnNew H0 ρ σ) (hi : ρ[i]? = some (.own d)) : OwnNew H0 (MP.setO ρ i d') σ := fun j e w h1 h2 => by
  unfold MP.setO at h1
  rcases set_get h1 with ⟨rfl, _, _⟩ | ⟨n1, h1⟩
  · exact ow i d w hi h2
  · exact ow j e w h1 h2
theorem s_asgO {st : Stmt} {i : Nat} {te : TE} (h : PS X st (tAsg te (gName i))) (ht : ∀ σ H Q, tE C W .fr ma σ H Q → te σ H Q) : PS X st (tS C F0 L0 H0 W lv fun ρ s => RS.of (ma ρ s) ρ fun d s => if isFr d then .nx (setO ρ i d) s else .stuck) := by
  refine PS.imp h fun D' σ H ⟨F, L, S, ρ, x, k, en, ow, q⟩ => ht _ _ _ ⟨F, L, S, ρ, k, en, (Sn.of x en ow (Grow.refl _ _) q).imp fun F1 L1 H1 S1 d e1 k1 ⟨x1, en1, g1, q1⟩ v r => ?_⟩
  split at q1
  · rename_i hd
    have r : Fr C F1 L1 H H1 v d := by simpa [Vok, hd] using r
    obtain ⟨p, o, hv, _, n, _⟩ := r.at_
    exact q1 _ _ _ _ x1 g1 k1 (en.setO en1 r) (ow.setO hv (x.none_of n))
  · exact False.elim q1
theorem ownAt_some {i : Nat} {d : D} (h : ownAt ρ i = some d) : ρ[i]? = some (.own d) := by
  unfold ownAt at h
  split at h
  · rename_i e; rw [e, Option.some.inj h]
  · cases h
/-- the own name i is frozen ahead of a statement -/
theorem s_frz {st : Stmt} {i : Nat} {m : Env' → Sto → RS} (h : PS X st (tS C F0 L0 H0 W lv m)) : PS X st (tS C F0 L0 H0 W lv fun ρ s => match ownAt ρ i with | some d => m (setI ρ i d) s | none => m ρ s) := by
  refine PS.imp h fun D' σ H ⟨F, L, S, ρ, x, k, en, ow, q⟩ => ?_
  dsimp only at q
  cases e : ownAt ρ i with
  | none => rw [e] at q; exact ⟨F, L, S, ρ, x, k, en, ow, q⟩
  | some d =>
    rw [e] at q
    have hi := ownAt_some e
    obtain ⟨v, hs, r⟩ := en.own hi
    obtain ⟨p, hv, n⟩ := ow i d v hi hs
    have hset : σ.set i (some v) = σ := List.ext_getElem? fun j => by
      by_cases hj : i = j
      · subst hj; rw [List.getElem?_set_self']; rw [hs]; rfl
      · rw [List.getElem?_set_ne hj]
    have key : ∃ F', Ok C F' L H S ∧ Ext F0 L0 H0 F' L H ∧ Rep C F' L v d ∧ Sub F F' ∧ ∀ o, o ≠ v → ∀ e, Fr C F L (fun _ => none) H o e → Fr C F' L (fun _ => none) H o e := by
      cases r with
      | @lst p' vs ds n' h1 z f l r =>
        cases hv
        refine ⟨_, k.freeze h1 f l, x.freeze n f, .lst upd_same z (r.up (Sub.fz f) (List.prefix_refl _)), Sub.fz f, fun o ho e q => ?_⟩
        cases q with
        | lst n a b c d e => exact .lst n a b (by unfold fz; rw [upd_ne fun z => ho (by rw [z])]; exact c) d (e.up (Sub.fz f) (List.prefix_refl _))
        | dic n a b c d e => exact .dic n a b (by unfold fz; rw [upd_ne fun z => ho (by rw [z])]; exact c) d (e.up (Sub.fz f) (List.prefix_refl _))
      | @dic p' vs ds n' h1 z f l r =>
        cases hv
        refine ⟨_, k.freeze h1 f l, x.freeze n f, .dic upd_same z (r.up (Sub.fz f) (List.prefix_refl _)), Sub.fz f, fun o ho e q => ?_⟩
        cases q with
        | lst n a b c d e => exact .lst n a b (by unfold fz; rw [upd_ne fun z => ho (by rw [z])]; exact c) d (e.up (Sub.fz f) (List.prefix_refl _))
        | dic n a b c d e => exact .dic n a b (by unfold fz; rw [upd_ne fun z => ho (by rw [z])]; exact c) d (e.up (Sub.fz f) (List.prefix_refl _))
    obtain ⟨F', k', x', r', sf, oth⟩ := key
    have q := q.from (Fs' := F') (Ls' := L) ⟨sf, List.prefix_refl _⟩
    refine ⟨F', L, S, setI ρ i d, x', k', ⟨?_, fun j z y h1 h2 => ?_, fun j k e e' w h1 h2 h3 h4 => ?_⟩, ?_, q⟩
    · unfold setI; rw [List.length_set]; exact en.len
    · unfold setI at h1
      rcases set_get h1 with ⟨rfl, rfl, _⟩ | ⟨n1, h1⟩
      · rw [hs] at h2; cases h2; exact ⟨v, rfl, r'⟩
      · have q' := en.slot j z y h1 h2
        cases z with
        | no => trivial
        | imm e => obtain ⟨w, q1, q2⟩ := q'; exact ⟨w, q1, q2.up sf (List.prefix_refl _)⟩
        | own e =>
          obtain ⟨w, rfl, q2⟩ := q'
          exact ⟨w, rfl, oth w (fun z => n1 (en.sep i j d e v hi h1 hs (z ▸ h2))) e q2⟩
    · unfold setI at h1 h2
      rcases set_get h1 with ⟨_, a1, _⟩ | ⟨n1, h1⟩
      · cases a1
      · rcases set_get h2 with ⟨_, a2, _⟩ | ⟨n2, h2⟩
        · cases a2
        · exact en.sep j k e e' w h1 h2 h3 h4
    · have := ow.setI (i := i) (x := some v) (d := d)
      rw [hset] at this
      exact this
/-! ### other statements -/
theorem gs_okO : ∀ {is : List Nat} {xs : List V} {ds : List D} {ρ : Env'} {σ : Sg} {Q : Sg → Hp → Prop}, RepAll C F L xs ds → ds.length = is.length → EnvOk C F L H ρ σ → OwnNew H0 ρ σ →
    (∀ σ', EnvOk C F L H (setAll ρ is ds) σ' → OwnNew H0 (MP.setAll ρ is ds) σ' → Q σ' H) → gsOf is xs σ H Q
  | [], _, _, ρ, σ, Q, .nil, _, en, ow, q => ⟨rfl, q σ en ow⟩
  | i :: is, _, _, ρ, σ, Q, .cons r t, hl, en, ow, q => ⟨_, _, rfl, gs_okO t (by simpa using hl) (en.setI (i := i) r) ow.setI q⟩
  | [], _, _, _, _, _, .cons _ _, hl, _, _, _ => by simp at hl
  | _ :: _, _, _, _, _, _, .nil, hl, _, _, _ => by simp at hl
theorem g_okO {tg : Tg} {x : V} {d : D} {Q : Sg → Hp → Prop} (k : Ok C F L H S) (r : Rep C F L x d) (h : bindTg ρ tg d = some ρ') (en : EnvOk C F L H ρ σ) (ow : OwnNew H0 ρ σ)
    (q : ∀ σ', EnvOk C F L H ρ' σ' → OwnNew H0 ρ' σ' → Q σ' H) : gOf C.K tg x σ H Q := by
  cases tg with
  | one i =>
    cases h
    exact q _ (en.setI r) ow.setI
  | tup is =>
    cases d <;> simp only [bindTg] at h <;> (first | cases h | skip)
    split at h
    · rename_i hl
      cases h
      cases r with
      | tup hs z t => exact ⟨_, _, rfl, k.sub.sqT hs, by rw [t.length, hl], gs_okO t hl en ow q⟩
    · cases h
theorem s_unp {st : Stmt} {is : List Nat} {te : TE} (h : PS X st (tAsg te (gOf C.K (.tup is)))) (ht : ∀ σ H Q, tE C W .rep ma σ H Q → te σ H Q) : PS X st (tS C F0 L0 H0 W lv fun ρ s => RS.of (ma ρ s) ρ fun d s => RS.of (R.of (bindTg ρ (.tup is) d) s) ρ fun ρ' s => .nx ρ' s) := by
  refine PS.imp h fun D' σ H ⟨F, L, S, ρ, x, k, en, ow, q⟩ => ht _ _ _ ⟨F, L, S, ρ, k, en, (Sn.of x en ow (Grow.refl _ _) q).imp fun F1 L1 H1 S1 d e1 k1 ⟨x1, en1, g1, q1⟩ v r => ?_⟩
  obtain ⟨ρ', h, q1⟩ := q1.got
  exact g_okO k1 r h en1 ow fun σ' en' ow' => q1 _ _ _ _ x1 g1 k1 en' ow'
theorem s_exp {st : Stmt} {te : TE} (h : PS X st (tDrop te)) (ht : ∀ σ H Q, tE C W .pk ma σ H Q → te σ H Q) : PS X st (tS C F0 L0 H0 W lv fun ρ s => RS.of (ma ρ s) ρ fun _ s => .nx ρ s) := by
  refine PS.imp h fun D' σ H ⟨F, L, S, ρ, x, k, en, ow, q⟩ => ht _ _ _ ⟨F, L, S, ρ, k, en, (Sn.of x en ow (Grow.refl _ _) q).imp fun F1 L1 H1 S1 d e1 k1 ⟨x1, en1, g1, q1⟩ v r => ?_⟩
  exact q1 _ _ _ _ x1 g1 k1 en1 ow
theorem s_ret {st : Stmt} {te : TE} (h : PS X st (tRet te)) (ht : ∀ σ H Q, tE C W lv ma σ H Q → te σ H Q) : PS X st (tS C F0 L0 H0 W lv fun ρ s => RS.of (ma ρ s) ρ fun d s => .ret d s) := by
  refine PS.imp h fun D' σ H ⟨F, L, S, ρ, x, k, en, ow, q⟩ => ht _ _ _ ⟨F, L, S, ρ, k, en, (Sn.of x en ow (Grow.refl _ _) q).imp fun F1 L1 H1 S1 d e1 k1 ⟨x1, en1, g1, q1⟩ v r => ?_⟩
  exact q1 _ _ _ _ x1 k1 (r.from fun a h => x.none_of h)
theorem Fr.since {v : V} {d : D} (x : Fr C F L (fun _ => none) H v d) {p : Addr} (hv : v = .ref p) (n : H0 p = none) : Fr C F L H0 H v d := by
  cases x with
  | lst _ a b c d e => cases hv; exact .lst n a b c d e
  | dic _ a b c d e => cases hv; exact .dic n a b c d e
theorem s_retO {st : Stmt} {i : Nat} (h : PS X st (tRet (tVar i))) (hlv : lv = .fr ∨ lv = .rep) : PS X st (tS C F0 L0 H0 W lv fun ρ s => RS.of (R.of (ownAt ρ i) s) ρ fun d s => .ret d s) := by
  refine PS.imp h fun D' σ H ⟨F, L, S, ρ, x, k, en, ow, q⟩ => ?_
  obtain ⟨d, h, q⟩ := q.got
  have hi := ownAt_some h
  obtain ⟨v, hs, r⟩ := en.own hi
  obtain ⟨p, hv, n⟩ := ow i d v hi hs
  have r' := r.since hv n
  refine ⟨v, hs, ?_⟩
  rcases hlv with e | e
  · subst e
    exact q _ _ _ _ x k (Vok.fr r')
  · subst e
    obtain ⟨F2, k2, x2, r2⟩ := r'.freeze k x
    exact q _ _ _ _ x2 k2 r2
theorem s_retN {st : Stmt} (h : PS X st tRetN) (hlv : lv = .fr ∨ lv = .rep) : PS X st (tS C F0 L0 H0 W lv fun ρ s => .ret .non s) := by
  refine PS.imp h fun D' σ H ⟨F, L, S, ρ, x, k, en, ow, q⟩ => ?_
  rcases hlv with e | e
  · subst e; exact q _ _ _ _ x k (Vok.re rfl .non)
  · subst e; exact q _ _ _ _ x k .non
theorem s_pass {st : Stmt} (h : PS X st tNext) : PS X st (tS C F0 L0 H0 W lv fun ρ s => .nx ρ s) :=
  PS.imp h fun D' σ H ⟨F, L, S, ρ, x, k, en, ow, q⟩ => q _ _ _ _ x (Grow.refl _ _) k en ow
theorem s_never {st : Stmt} : PS X st (tS C F0 L0 H0 W lv fun ρ s => .stuck) := PS.imp ps_never fun D' σ H ⟨F, L, S, ρ, x, k, en, ow, q⟩ => q
theorem s_if {m : Env' → Sto → R Bool} {sa sb : List Stmt} {na nb : Env' → Sto → RS} (hc : PT X c (tT C W m)) (ha : PSs X sa (tS C F0 L0 H0 W lv na)) (hb : PSs X sb (tS C F0 L0 H0 W lv nb)) :
    PS X (.If c sa sb pos) (tS C F0 L0 H0 W lv fun ρ s => RS.of (m ρ s) ρ fun t s => if t then na ρ s else nb ρ s) := by
  refine PS.imp (ps_if hc ha hb) fun D' σ H ⟨F, L, S, ρ, x, k, en, ow, q⟩ => ⟨F, L, S, ρ, k, en, (Sn.of x en ow (Grow.refl _ _) q).imp fun F1 L1 H1 S1 t e1 k1 ⟨x1, en1, g1, q1⟩ => ?_⟩
  cases t with
  | true => exact iteT ⟨F1, L1, S1, ρ, x1, k1, en1, ow, q1.from g1⟩
  | false => exact iteF ⟨F1, L1, S1, ρ, x1, k1, en1, ow, q1.from g1⟩
theorem s_aug {st : Stmt} {i : Nat} {r : R2} {f : D → D → Option D} (h : PS X st (tAug i (tE C W .pk ma) r)) (hf : OpOk C .fr r f) : PS X st (tS C F0 L0 H0 W lv fun ρ s => RS.of (R.of (immAt ρ i) s) ρ fun x s => RS.of (ma ρ s) ρ fun d s => RS.of (R.of (f x d) s) ρ fun r s => .nx (setI ρ i r) s) := by
  refine PS.imp h fun D' σ H ⟨F, L, S, ρ, x, k, en, ow, q⟩ => ?_
  obtain ⟨y, hi, q⟩ := q.got
  obtain ⟨v, hs, rv⟩ := en.imm (immAt_some hi)
  refine ⟨v, hs, F, L, S, ρ, k, en, (Sn.of x en ow (Grow.refl _ _) q).imp fun F1 L1 H1 S1 d e1 k1 ⟨x1, en1, g1, q1⟩ w rw' => ?_⟩
  obtain ⟨z, hz, q1⟩ := q1.got
  refine hf _ _ _ _ _ _ _ _ _ _ k1 (.rep (rv.up e1.ff e1.ll)) rw' hz fun F2 L2 H2 u e2 k2 ru => ?_
  obtain ⟨F3, k3, e3, r3⟩ := Vok.weak ru k2 e2
  exact q1 _ _ _ _ (x1.trans e3) (g1.trans e3.grow) k3 ((en1.ext e3).setI r3) ow.setI
def augOf : BO → Operator := opOf
theorem aug_ok (o : BO) (ho : o = .add ∨ o = .mul) : ∃ r, PIp X (opOf o) r ∧ OpOk C .fr r (dAug o) := by
  rcases ho with e | e
  · subst e
    exact ⟨_, iop_add, OpOk.cong ok_II fun a b d e => by cases a <;> cases b <;> simp_all [dAug, fI]⟩
  · subst e
    refine ⟨_, iop_mul, OpOk.cong (ok_I (f := fun i j => if small i || small j then some (.int (i * j)) else none) fun i j d e => ?_) fun a b d e => by cases a <;> cases b <;> simp_all [dAug, fI]⟩
    split at e
    · rename_i h
      cases e
      refine ⟨?_, fun _ _ => .int _, rfl⟩
      simp only [small, Bool.or_eq_true, Bool.and_eq_true, decide_eq_true_eq] at h
      exact h
    · cases e
theorem lstOwn_some {i : Nat} {xs : List D} (h : lstOwn ρ i = some xs) : ρ[i]? = some (.own (.lst xs)) := by
  unfold lstOwn at h
  split at h
  · rename_i e; rw [e, Option.some.inj h]
  · cases h
theorem dicOwn_some {i : Nat} {xs : List (D × D)} (h : dicOwn ρ i = some xs) : ρ[i]? = some (.own (.dic xs)) := by
  unfold dicOwn at h
  split at h
  · rename_i e; rw [e, Option.some.inj h]
  · cases h
/-- an own list changed -/
theorem own_list {i : Nat} {xs xs' : List D} {p : Addr} {vs vs' : List V} (x : Ext F0 L0 H0 F L H) (k : Ok C F L H S) (en : EnvOk C F L H ρ σ) (ow : OwnNew H0 ρ σ) (hi : ρ[i]? = some (.own (.lst xs))) (hs : σ[i]? = some (some (.ref p))) (f : F p = none) (l : p ∉ L) (z : vs'.length ≤ sizeLine) (r : RepAll C F L vs' xs') :
    Ext F0 L0 H0 F L (upd H p (.lst vs')) ∧ Ok C F L (upd H p (.lst vs')) S ∧ EnvOk C F L (upd H p (.lst vs')) (setO ρ i (.lst xs')) σ ∧ OwnNew H0 (setO ρ i (.lst xs')) σ := by
  obtain ⟨p', e, n⟩ := ow i _ _ hi hs
  cases e
  exact ⟨x.updNew n, k.updNew f l, en.upd hi hs (.lst rfl upd_same z f l r), ow.upd hi⟩
theorem own_dict {i : Nat} {xs xs' : List (D × D)} {p : Addr} {vs' : List (Key × V)} (x : Ext F0 L0 H0 F L H) (k : Ok C F L H S) (en : EnvOk C F L H ρ σ) (ow : OwnNew H0 ρ σ) (hi : ρ[i]? = some (.own (.dic xs))) (hs : σ[i]? = some (some (.ref p))) (f : F p = none) (l : p ∉ L) (z : vs'.length ≤ sizeLine) (r : RepKV C F L vs' xs') :
    Ext F0 L0 H0 F L (upd H p (.dK vs')) ∧ Ok C F L (upd H p (.dK vs')) S ∧ EnvOk C F L (upd H p (.dK vs')) (setO ρ i (.dic xs')) σ ∧ OwnNew H0 (setO ρ i (.dic xs')) σ := by
  obtain ⟨p', e, n⟩ := ow i _ _ hi hs
  cases e
  exact ⟨x.updNew n, k.updNew f l, en.upd hi hs (.dic rfl upd_same z f l r), ow.upd hi⟩
theorem Fr.lstAt {v : V} {ds : List D} (x : Fr C F L H' H v (.lst ds)) : ∃ p vs, v = .ref p ∧ H p = some (.lst vs) ∧ vs.length ≤ sizeLine ∧ F p = none ∧ p ∉ L ∧ RepAll C F L vs ds := by
  cases x with
  | lst n a b c d e => exact ⟨_, _, rfl, a, b, c, d, e⟩
theorem Fr.dicAt {v : V} {ds : List (D × D)} (x : Fr C F L H' H v (.dic ds)) : ∃ p vs, v = .ref p ∧ H p = some (.dK vs) ∧ vs.length ≤ sizeLine ∧ F p = none ∧ p ∉ L ∧ RepKV C F L vs ds := by
  cases x with
  | dic n a b c d e => exact ⟨_, _, rfl, a, b, c, d, e⟩
/-- x.append(e) -/
theorem s_app {i : Nat} {x : Str} {p apos cpos pp : Pos} {e : Expr} (hv : PE X (.Name x p) (tVar i)) (hbase : attributeBase (.Name x p) "append" X.env (eval (.Name x p) X.env) = eval (.Name x p) X.env) (hline : (apos.endLine == cpos.line) = true) (hs : starEach [e] X.env = [(false, eval e X.env)]) (ha : PE X e (tE C W .rep ma)) :
    PS X (.Expr (.Call (.Attribute (.Name x p) "append" apos) [e] [] cpos) pp) (tS C F0 L0 H0 W lv fun ρ s => RS.of (R.of (lstOwn ρ i) s) ρ fun xs s => RS.of (ma ρ s) ρ fun d s => RS.of (R.of (dApp xs d) s) ρ fun o s => .nx (setO ρ i o) s) := by
  refine PS.imp (ps_expr (pe_bm PySem.F.plainAttrs_list PySem.F.slot_list_append PySem.F.type_list_append mt_append hv (pa_cons ha pa_nil hs) hbase (by rw [hs]; rfl) hline (by rw [hs]; rfl) rfl)) fun D' σ H ⟨F, L, S, ρ, x, k, en, ow, q⟩ => ?_
  obtain ⟨xs, hi, q⟩ := q.got
  have hi := lstOwn_some hi
  obtain ⟨v, hsl, r⟩ := en.own hi
  obtain ⟨p, vs, rfl, h1, z, f, l, rr⟩ := r.lstAt
  refine ⟨_, hsl, .inl ⟨rfl, vs, SqL.of h1⟩, F, L, S, ρ, k, en, (Sn.of x en ow (Grow.refl _ _) q).imp fun F1 L1 H1 S1 d e1 k1 ⟨x1, en1, g1, q1⟩ w rw' => ?_⟩
  obtain ⟨o, ho, q1⟩ := q1.got
  unfold dApp at ho
  split at ho
  · rename_i hl
    cases ho
    obtain ⟨v', hsl', r'⟩ := en1.own hi
    rw [hsl] at hsl'
    cases hsl'
    obtain ⟨p', vs', e, h1', z', f', l', rr'⟩ := r'.lstAt
    cases e
    have hlt : vs'.length < sizeLine := by rw [sizeBIG, rr'.length]; exact hl
    obtain ⟨a1, a2, a3, a4⟩ := own_list (vs := vs') (vs' := vs' ++ [w]) (xs' := xs ++ [d]) x1 k1 en1 ow hi hsl f' l' (by rw [List.length_append]; exact hlt) (rr'.snoc rw')
    exact ⟨_, vs', w, rfl, rfl, h1', hlt, q1 _ _ _ _ a1 g1 a2 a3 a4⟩
  · cases ho
/-- x[k] = e, x an own list -/
theorem s_setI {i : Nat} {x : Str} {p sp pp : Pos} {kx e : Expr} (hv : PE X (.Name x p) (tVar i)) (hsw : swapsWithSole [.Subscript (.Name x p) kx sp] e pp.line X.env = pure false) (hss : swappedStores [.Subscript (.Name x p) kx sp] e X.env = pure none) (ha : PE X e (tE C W .rep ma)) (hk : PE X kx (tE C W .pk mb))
    (hsub : ∀ v, assign (.Subscript (.Name x p) kx sp) X.env v = (do
      let ov ← holding [v] (eval (.Name x p) X.env)
      let iv ← holding [v, ov] (eval kx X.env)
      standAt sp
      holding [v, ov, iv] (setItem ov iv v)
      release [v, ov, iv] [])) :
    PS X (.Assign [.Subscript (.Name x p) kx sp] e pp) (tS C F0 L0 H0 W lv fun ρ s => RS.of (R.of (lstOwn ρ i) s) ρ fun o s => RS.of (ma ρ s) ρ fun d s => RS.of (mb ρ s) ρ fun x s => RS.of (R.of (dSetI o x d) s) ρ fun o s => .nx (setO ρ i o) s) := by
  refine PS.imp (ps_asg ha (pg_sub hv hk set_list hsub) hsw hss) fun D' σ H ⟨F, L, S, ρ, x, k, en, ow, q⟩ => ?_
  obtain ⟨xs, hi, q⟩ := q.got
  have hi := lstOwn_some hi
  obtain ⟨v, hsl, r0⟩ := en.own hi
  refine ⟨F, L, S, ρ, k, en, (Sn.of x en ow (Grow.refl _ _) q).imp fun F1 L1 H1 S1 d e1 k1 ⟨x1, en1, g1, q1⟩ w rw' => ?_⟩
  refine ⟨v, hsl, F1, L1, S1, ρ, k1, en1, (Sn.of x1 en1 ow g1 q1).imp fun F2 L2 H2 S2 y e2 k2 ⟨x2, en2, g2, q2⟩ u ru => ?_⟩
  obtain ⟨o, ho, q2⟩ := q2.got
  have hy : ∃ j, y = .int j := by cases y <;> first | exact ⟨_, rfl⟩ | cases ho
  obtain ⟨j, rfl⟩ := hy
  simp only [dSetI, Option.map_eq_some_iff] at ho
  obtain ⟨n, hn, rfl⟩ := ho
  obtain ⟨v', hsl', r'⟩ := en2.own hi
  rw [hsl] at hsl'
  cases hsl'
  obtain ⟨p', vs', rfl, h1', z', f', l', rr'⟩ := r'.lstAt
  have rw2 : Rep C F1 L1 w d := rw'
  obtain ⟨a1, a2, a3, a4⟩ := own_list (vs := vs') (vs' := vs'.set n w) (xs' := xs.set n d) x2 k2 en2 ow hi hsl f' l' (by rw [List.length_set]; exact z') (RepAll.set (rw2.up e2.ff e2.ll) n rr')
  exact ⟨p', vs', j, n, rfl, Pk.int ru, h1', by rw [rr'.length]; exact hn, q2 _ _ _ _ a1 g2 a2 a3 a4⟩
/-- x[k] = e, x an own dict -/
theorem s_setK {i : Nat} {x : Str} {p sp pp : Pos} {kx e : Expr} (hu : X.A.units + 1 < cLine) (hv : PE X (.Name x p) (tVar i)) (hsw : swapsWith e (some (.Subscript (.Name x p) kx sp)) pp.line X.env = pure false) (ha : PE X e (tE C W .rep ma)) (hk : PE X kx (tE C W .pk mb)) :
    PS X (.Assign [.Subscript (.Name x p) kx sp] e pp) (tS C F0 L0 H0 W lv fun ρ s => RS.of (R.of (dicOwn ρ i) s) ρ fun o s => RS.of (ma ρ s) ρ fun d s => RS.of (mb ρ s) ρ fun x s => RS.of (R.of (dSetK o x d) s) ρ fun o s => .nx (setO ρ i o) s) := by
  refine PS.imp (ps_dput hu hv hk ha hsw) fun D' σ H ⟨F, L, S, ρ, x, k, en, ow, q⟩ => ?_
  obtain ⟨xs, hi, q⟩ := q.got
  have hi := dicOwn_some hi
  obtain ⟨v, hsl, r0⟩ := en.own hi
  refine ⟨F, L, S, ρ, k, en, (Sn.of x en ow (Grow.refl _ _) q).imp fun F1 L1 H1 S1 d e1 k1 ⟨x1, en1, g1, q1⟩ w rw' => ?_⟩
  refine ⟨v, hsl, F1, L1, S1, ρ, k1, en1, (Sn.of x1 en1 ow g1 q1).imp fun F2 L2 H2 S2 y e2 k2 ⟨x2, en2, g2, q2⟩ u ru => ?_⟩
  obtain ⟨o, ho, q2⟩ := q2.got
  have hy : ∃ j, y = .str j := by cases y <;> first | exact ⟨_, rfl⟩ | cases ho
  obtain ⟨j, rfl⟩ := hy
  simp only [dSetK] at ho
  split at ho
  · rename_i hl
    cases ho
    obtain ⟨v', hsl', r'⟩ := en2.own hi
    rw [hsl] at hsl'
    cases hsl'
    obtain ⟨p', vs', rfl, h1', z', f', l', rr'⟩ := r'.dicAt
    have rw2 : Rep C F1 L1 w d := rw'
    have ru2 : Pk C F2 L2 H2 u (.str j) := ru
    have hlt : vs'.length < sizeLine := by rw [sizeBIG, rr'.length]; exact hl
    obtain ⟨a1, a2, a3, a4⟩ := own_dict (vs' := putK vs' (Sum.inr j) w) (xs' := putD xs j d) x2 k2 en2 ow hi hsl f' l' (Nat.le_trans (putK_len _ _ _) hlt) (putK_rep ru2.str.2 (rw2.up e2.ff e2.ll) rr')
    refine ⟨p', _, rfl, ?_, q2 _ _ _ _ a1 g2 a2 a3 a4⟩
    rw [ru2.str.1]
    exact DPut.k (k := Sum.inr j) h1' hlt
  · cases ho
/-! ### for -/
theorem RS.seq_assoc (r : RS) (f g : Env' → Sto → RS) : (r.seq f).seq g = r.seq fun ρ s => (f ρ s).seq g := by cases r <;> rfl
theorem s_for {tg iter : Expr} {body : List Stmt} {tgt' : Tg} {msrc : Env' → Sto → R (List D)} {mb : Env' → Sto → RS} (hK : X.K = C.K) (hp : PassesOwn (model X.prog X.w) X.A X.env X.xe) (hc : X.calm = true) (hi : PI X tg iter (tI C W true msrc)) (hg : PG X tg (gOf C.K tgt')) (hb : PSs X body (tS C F0 L0 H0 W lv mb)) (hs : ∀ x, foldedSetIterable iter X.env x = pure x) :
    PS X (.For tg iter body [] pos) (tS C F0 L0 H0 W lv fun ρ s => RS.of (msrc ρ s) ρ fun ds s => forLoop (fun d ρ s => RS.of (R.of (bindTg ρ tgt' d) s) ρ fun ρ' s => mb ρ' s) ds ρ s) := by
  refine PS.imp (ps_for hp hc hi hg hb hs) fun D' σ H ⟨F, L, S, ρ, x, k, en, ow, q⟩ => ⟨F, L, S, ρ, k, en, (Sn.of x en ow (Grow.refl _ _) q).imp fun F1 L1 H1 S1 ds e1 k1 ⟨x1, en1, g1, q1⟩ J hJ => ?_⟩
  refine ⟨fun i m σ' H' => m = ds.length - i ∧ i ≤ ds.length ∧ ∃ F' L' S' ρ', Ext F0 L0 H0 F' L' H' ∧ Ok C F' L' H' S' ∧ EnvOk C F' L' H' ρ' σ' ∧ OwnNew H0 ρ' σ' ∧ Grow F1 L1 F' L' ∧
    Sn C F0 L0 H0 F' L' W lv D' (forLoop (fun d ρ s => RS.of (R.of (bindTg ρ tgt' d) s) ρ fun ρ' s => mb ρ' s) (ds.drop i) ρ' S'), ⟨ds.length, by simp, Nat.zero_le _, F1, L1, S1, ρ, x1, k1, en1, ow, Grow.refl _ _, by rw [List.drop_zero]; exact q1.from g1⟩, ?_⟩
  rintro i m σ' H' ⟨rfl, hi, F', L', S', ρ', x', k', en', ow', hsub, q'⟩
  have ht : tgt true F1 L1 H1 F' L' H' := by simpa [tgt, Grow] using hsub
  by_cases hlt : i < ds.length
  · refine .inr ⟨hJ.go i F' L' H' S' ht k' hlt, fun σ2 H2 => i + 1 ≤ ds.length ∧ ∃ F' L' S' ρ', Ext F0 L0 H0 F' L' H2 ∧ Ok C F' L' H2 S' ∧ EnvOk C F' L' H2 ρ' σ2 ∧ OwnNew H0 ρ' σ2 ∧ Grow F1 L1 F' L' ∧
      Sn C F0 L0 H0 F' L' W lv D' (forLoop (fun d ρ s => RS.of (R.of (bindTg ρ tgt' d) s) ρ fun ρ' s => mb ρ' s) (ds.drop (i + 1)) ρ' S'), fun σ2 H2 h => ⟨ds.length - (i + 1), by omega, rfl, h⟩, fun y H2 hy => ?_⟩
    have hd : ds[i]? = some ds[i] := List.getElem?_eq_getElem hlt
    obtain ⟨F2, x2, k2, r2⟩ := hJ.yld i F' L' H' S' ds[i] ht k' hd y H2 hy
    have hdrop : ds.drop i = ds[i] :: ds.drop (i + 1) := List.drop_eq_getElem_cons hlt
    rw [hdrop] at q'
    simp only [forLoop] at q'
    cases hb' : bindTg ρ' tgt' ds[i] with
    | none => rw [hb'] at q'; exact False.elim q'
    | some ρ2 =>
      rw [hb'] at q'
      simp only [R.of_some, RS.of_ok] at q'
      refine g_okO k2 r2 hb' (en'.ext x2) ow' fun σ3 en3 ow3 => ⟨F2, L', S', ρ2, x'.trans x2, k2, en3, ow3, ?_⟩
      cases e : mb ρ2 S' with
      | nx ρ3 S3 =>
        rw [e] at q'
        intro F4 L4 H4 σ4 x4 g4 k4 en4 ow4
        have g5 : Grow F' L' F4 L4 := x2.grow.trans g4
        exact ⟨hlt, F4, L4, S3, ρ3, x4, k4, en4, ow4, hsub.trans g5, Sn.from g5 q'⟩
      | ret d S3 => rw [e] at q'; exact q'
      | exc z ρ3 S3 =>
        rw [e] at q'
        exact fun F4 L4 H4 dx σ4 x4 g4 => q' F4 L4 H4 dx σ4 x4 (x2.grow.trans g4)
      | stuck => rw [e] at q'; exact q'
  · have e : i = ds.length := by omega
    subst e
    rw [List.drop_length] at q'
    exact .inl ⟨hJ.stop _ F' L' H' S' ht k' (Nat.le_refl _), q' _ _ _ _ x' (Grow.refl _ _) k' en' ow'⟩
/-! ### while -/
theorem s_whl {c : Expr} {body : List Stmt} {mt : Env' → Sto → R Bool} {mb : Env' → Sto → RS} {n : Nat} (hp : PassesOwn (model X.prog X.w) X.A X.env X.xe) (hc : PT X c (tT C W mt)) (hb : PSs X body (tS C F0 L0 H0 W lv mb)) :
    PS X (.While c body [] pos) (tS C F0 L0 H0 W lv (whlLoop mt mb n)) := by
  refine PS.imp (ps_while hp hc hb) fun D' σ H ⟨F, L, S, ρ, x, k, en, ow, q⟩ => ?_
  refine ⟨fun m σ' H' => ∃ F' L' S' ρ', Ext F0 L0 H0 F' L' H' ∧ Ok C F' L' H' S' ∧ EnvOk C F' L' H' ρ' σ' ∧ OwnNew H0 ρ' σ' ∧ Grow F L F' L' ∧ Sn C F0 L0 H0 F' L' W lv D' (whlLoop mt mb m ρ' S'), ⟨n, F, L, S, ρ, x, k, en, ow, Grow.refl _ _, q⟩, ?_⟩
  rintro m σ' H' ⟨F', L', S', ρ', x', k', en', ow', hsub, q'⟩
  cases m with
  | zero => exact False.elim q'
  | succ m =>
    refine ⟨F', L', S', ρ', k', en', (Sn.of x' en' ow' (Grow.refl _ _) q').imp fun F1 L1 H1 S1 t e1 k1 ⟨x1, en1, g1, q1⟩ => ?_⟩
    cases t with
    | false => exact iteF (q1 _ _ _ _ x1 g1 k1 en1 ow')
    | true =>
      rw [if_pos rfl] at q1
      refine iteT ⟨fun σ2 H2 => ∃ F' L' S' ρ', Ext F0 L0 H0 F' L' H2 ∧ Ok C F' L' H2 S' ∧ EnvOk C F' L' H2 ρ' σ2 ∧ OwnNew H0 ρ' σ2 ∧ Grow F L F' L' ∧ Sn C F0 L0 H0 F' L' W lv D' (whlLoop mt mb m ρ' S'), fun σ2 H2 h => ⟨m, Nat.lt_succ_self m, h⟩, F1, L1, S1, ρ', x1, k1, en1, ow', ?_⟩
      cases e : mb ρ' S1 with
      | nx ρ3 S3 =>
        rw [e] at q1
        intro F4 L4 H4 σ4 x4 g4 k4 en4 ow4
        exact ⟨F4, L4, S3, ρ3, x4, k4, en4, ow4, hsub.trans (g1.trans g4), Sn.from (g1.trans g4) q1⟩
      | ret d S3 => rw [e] at q1; exact q1
      | exc z ρ3 S3 =>
        rw [e] at q1
        exact fun F4 L4 H4 dx σ4 x4 g4 => q1 F4 L4 H4 dx σ4 x4 (g1.trans g4)
      | stuck => rw [e] at q1; exact q1
/-! ### lists that are cells -/
theorem cellAt_ok {F : Hp} {L : List Addr} {H : Hp} {S : Sto} {v : V} {x : D} {xs : List D} (k : Ok C F L H S) (r : Rep C F L v x) (h : cellAt S x = some xs) : ∃ n p vs, x = .ref n ∧ v = .ref p ∧ L[n]? = some p ∧ S[n]? = some (.lst xs) ∧ H p = some (.lst vs) ∧ vs.length ≤ sizeLine ∧ RepAll C F L vs xs := by
  unfold cellAt at h
  split at h
  · rename_i n
    split at h
    · rename_i e
      cases h
      cases r with
      | ref hn =>
        obtain ⟨a, h1, h2⟩ := k.cells n _ e
        rw [hn] at h1
        cases h1
        cases h2 with
        | lst a b c => exact ⟨n, _, _, rfl, rfl, hn, e, a, b, c⟩
    · cases h
  · cases h
theorem m_cget (hK : X.K = C.K) (hs : PlainIx b) (ha : PE X a (tE C W .rep ma)) (hb : PE X b (tE C W .pk mb)) :
    PE X (.Subscript a b pos) (tE C W .rep fun ρ s => (ma ρ s).bind fun x s => (mb ρ s).bind fun y s => R.of (cGet s x y) s) := by
  refine PE.imp (pe_ix ix_seq ha hb hs) fun σ H Q ⟨F, L, S, ρ, k, en, q⟩ => ⟨F, L, S, ρ, k, en, q.bind.imp fun F1 L1 H1 S1 x e1 k1 q1 v1 r1 => ?_⟩
  refine ⟨F1, L1, S1, ρ, k1, en.ext e1, q1.bind.imp fun F2 L2 H2 S2 y e2 k2 q2 v2 r2 => ?_⟩
  obtain ⟨d, hd, qq⟩ := q2.of
  unfold cGet at hd
  split at hd
  · rename_i i
    obtain ⟨xs, h1, h2⟩ := Option.bind_eq_some_iff.mp hd
    have r1' : Rep C F1 L1 v1 x := r1
    obtain ⟨n, p, vs, rfl, rfl, _, _, hp, z, rr⟩ := cellAt_ok k2 (r1'.up e2.ff e2.ll) h1
    obtain ⟨v, h3, h4⟩ := atI_rep rr h2
    exact .inl ⟨p, vs, _, v, rfl, Pk.int r2, SqL.of hp, h3, qq.now k2 _ h4⟩
  · cases hd
theorem m_clen {p : Pos} (hK : X.K = C.K) (hg : Gl X "len") (hm : X.mg "len" = none) (hs : starEach [a] X.env = [(false, eval a X.env)]) (ha : PE X a (tE C W .rep ma)) :
    PE X (.Call (.Name "len" p) [a] [] pos) (tE C W .fr fun ρ s => (ma ρ s).bind fun x s => R.of (cLen s x) s) := by
  refine PE.imp (pe_callB call_len hg hm boot_len (pa_cons ha pa_nil hs) (by decide) (by decide) (by rw [hs]; rfl) rfl) fun σ H Q ⟨F, L, S, ρ, k, en, q⟩ => ⟨F, L, S, ρ, k, en, q.bind.imp fun F1 L1 H1 S1 x e1 k1 q1 v1 r1 => ?_⟩
  obtain ⟨d, hd, qq⟩ := q1.of
  unfold cLen at hd
  obtain ⟨xs, h1, rfl⟩ := Option.map_eq_some_iff.mp hd
  obtain ⟨n, p, vs, rfl, rfl, _, _, hp, z, rr⟩ := cellAt_ok k1 r1 h1
  refine ⟨_, _, rfl, .inl ⟨vs, SqL.of hp, rfl⟩, ?_⟩
  rw [rr.length]
  exact qq.now k1 _ (Vok.re rfl (.int _))
theorem m_ccat (ha : PE X a (tE C W .rep ma)) (hb : PE X b (tE C W .pk mb)) :
    PE X (.BinOp a .Add b pos) (tE C W .fr fun ρ s => (ma ρ s).bind fun x s => (mb ρ s).bind fun y s => R.of (cCat s x y) s) := by
  refine PE.imp (pe_op op_cat ha hb) fun σ H Q ⟨F, L, S, ρ, k, en, q⟩ => ⟨F, L, S, ρ, k, en, q.bind.imp fun F1 L1 H1 S1 x e1 k1 q1 v1 r1 => ?_⟩
  refine ⟨F1, L1, S1, ρ, k1, en.ext e1, q1.bind.imp fun F2 L2 H2 S2 y e2 k2 q2 v2 r2 => ?_⟩
  obtain ⟨d, hd, qq⟩ := q2.of
  unfold cCat at hd
  split at hd
  · rename_i ys
    obtain ⟨xs, h1, h2⟩ := Option.bind_eq_some_iff.mp hd
    have r1' : Rep C F1 L1 v1 x := r1
    obtain ⟨n, p, vs, rfl, rfl, _, _, hp, z, rr⟩ := cellAt_ok k2 (r1'.up e2.ff e2.ll) h1
    obtain ⟨p', vs', rfl, hp', z', rr'⟩ := Pk.list k2.sub r2
    obtain ⟨rfl, zz⟩ := mkLst_some h2
    have l1 := rr.length
    have l2 := rr'.length
    rw [List.length_append] at zz
    refine ⟨p, p', vs, vs', rfl, rfl, hp, hp', by omega, fun w hw => ?_⟩
    obtain ⟨x1, x2, x3⟩ := new_lst k2 hw (by rw [List.length_append]; omega) (rr.append rr')
    exact qq _ _ _ x1 x2 _ (Vok.fr (x3.from fun a h => (e1.trans e2).none_of h))
  · cases hd
theorem Ok.cset {F : Hp} {L : List Addr} {H : Hp} {S : Sto} {n : Nat} {p : Addr} {vs : List V} {xs : List D} (k : Ok C F L H S) (hn : L[n]? = some p) (z : vs.length ≤ sizeLine) (r : RepAll C F L vs xs) (hp : H p ≠ none) :
    Ok C F L (L2.upd H p (.lst vs)) (S.set n (.lst xs)) ∧ Ext F L H F L (L2.upd H p (.lst vs)) := by
  have hL : p ∈ L := List.mem_of_getElem? hn
  refine ⟨⟨fun a o h => ?_, k.fl, k.nd, by rw [List.length_set]; exact k.len, fun m c hc => ?_⟩, Sub.refl _, List.prefix_refl _, fun a o h hl => ?_, fun a ha h => ?_, fun _ _ h => .inl h, fun _ h => .inl h⟩
  · rw [L2.upd_ne fun e => by subst e; rw [k.fl _ hL] at h; cases h]; exact k.sub a o h
  · rcases set_get hc with ⟨rfl, rfl, _⟩ | ⟨ne, hc⟩
    · exact ⟨p, hn, .lst L2.upd_same z r⟩
    · obtain ⟨b, h1, h2⟩ := k.cells m c hc
      have hb : b ≠ p := fun e => by
        subst e
        exact ne ((List.getElem?_inj (List.getElem?_eq_some_iff.mp hn).1 k.nd).mp (hn.trans h1.symm))
      exact ⟨b, h1, h2.up (Sub.refl _) (List.prefix_refl _) (L2.upd_ne hb)⟩
  · rw [L2.upd_ne fun e => by subst e; exact hl hL]; exact h
  · by_cases e : a = p
    · subst e; rw [L2.upd_same]; simp
    · rw [L2.upd_ne e]; exact h
theorem s_cset {sp pp : Pos} {A kx e : Expr} (hA : PE X A (tE C W .rep mc)) (hsw : swapsWithSole [.Subscript A kx sp] e pp.line X.env = pure false) (hss : swappedStores [.Subscript A kx sp] e X.env = pure none) (ha : PE X e (tE C W .rep ma)) (hk : PE X kx (tE C W .pk mb))
    (hsub : ∀ v, assign (.Subscript A kx sp) X.env v = (do
      let ov ← holding [v] (eval A X.env)
      let iv ← holding [v, ov] (eval kx X.env)
      standAt sp
      holding [v, ov, iv] (setItem ov iv v)
      release [v, ov, iv] [])) :
    PS X (.Assign [.Subscript A kx sp] e pp) (tS C F0 L0 H0 W lv fun ρ s => RS.of (ma ρ s) ρ fun d s => RS.of (mc ρ s) ρ fun x s => RS.of (mb ρ s) ρ fun y s => RS.of (R.of (cSet s x y d) s) ρ fun s' _ => .nx ρ s') := by
  refine PS.imp (ps_asg ha (pg_sub hA hk set_list hsub) hsw hss) fun D' σ H ⟨F, L, S, ρ, x, k, en, ow, q⟩ => ?_
  refine ⟨F, L, S, ρ, k, en, (Sn.of x en ow (Grow.refl _ _) q).imp fun F1 L1 H1 S1 d e1 k1 ⟨x1, en1, g1, q1⟩ w rw' => ?_⟩
  refine ⟨F1, L1, S1, ρ, k1, en1, (Sn.of x1 en1 ow g1 q1).imp fun F2 L2 H2 S2 y e2 k2 ⟨x2, en2, g2, q2⟩ u ru => ?_⟩
  refine ⟨F2, L2, S2, ρ, k2, en2, (Sn.of x2 en2 ow g2 q2).imp fun F3 L3 H3 S3 z e3 k3 ⟨x3, en3, g3, q3⟩ t rt => ?_⟩
  obtain ⟨S4, ho, q3⟩ := q3.got
  unfold cSet at ho
  split at ho
  · rename_i i
    split at ho
    · rename_i n _
      obtain ⟨xs, h1, h2⟩ := Option.bind_eq_some_iff.mp ho
      obtain ⟨j, hj, rfl⟩ := Option.map_eq_some_iff.mp h2
      have ru' : Rep C F2 L2 u (.ref n) := ru
      obtain ⟨n', p, vs, e, rfl, hn, hS, hp, zz, rr⟩ := cellAt_ok k3 (ru'.up e3.ff e3.ll) h1
      cases e
      have rw2 : Rep C F1 L1 w d := rw'
      obtain ⟨a1, a2⟩ := k3.cset hn (vs := vs.set j w) (by rw [List.length_set]; exact zz) (RepAll.set (rw2.up (e2.trans e3).ff (e2.trans e3).ll) j rr) (by rw [hp]; simp)
      exact ⟨p, vs, _, j, rfl, Pk.int rt, hp, by rw [rr.length]; exact hj, q3 _ _ _ _ (x3.trans a2) g3 a1 (en3.ext a2) ow⟩
    · cases ho
  · cases ho
end
end MP

/-! MP: several names at once; a def by its body. -/
namespace MP
open PySem PySem.Spec PyProof.Rows L2
def lvO (o : Bool) : Lv := if o then .fr else .rep
/-- values of several expressions; those of own names are fresh since Hs, all different -/
inductive VAll (C : Cn) (F : Hp) (L : List Addr) (Hs H : Hp) : List Bool → List V → List D → Prop
  | nil : VAll C F L Hs H [] [] []
  | cons {o : Bool} {os : List Bool} {v : V} {vs : List V} {d : D} {ds : List D} : Vok C F L Hs H (lvO o) v d → VAll C F L Hs H os vs ds →
      (o = true → isFr d = true → ∀ (j : Nat) (w : V) (e : D), os[j]? = some true → vs[j]? = some w → ds[j]? = some e → isFr e = true → w ≠ v) → VAll C F L Hs H (o :: os) (v :: vs) (d :: ds)
def tL (C : Cn) (W : WX) (os : List Bool) (m : Env' → Sto → R (List D)) : TA := fun σ H Q => ∃ F L S ρ, Ok C F L H S ∧ EnvOk C F L H ρ σ ∧
  Rn C W σ F L H (m ρ S) fun F' L' H' _ ds => ∀ vs, VAll C F' L' H H' os vs ds → Q vs H'
section
variable {C : Cn} {F0 : Hp} {L0 : List Addr} {H0 : Hp} {W : WX} {X : Cx} {lv lw : Lv} {a b c : Expr} {pos : Pos} {ma mb mc : Env' → Sto → R D} {F F' F1 : Hp} {L L' L1 : List Addr} {H H' H1 Hs : Hp} {S : Sto} {ρ ρ' : Env'} {σ σ' : Sg} {D' : Ends} {es : List Expr} {ms : Env' → Sto → R (List D)} {os : List Bool} {o : Bool}
theorem VAll.from {vs : List V} {ds : List D} (x : VAll C F L H1 H os vs ds) (h : ∀ a, H1 a = none → Hs a = none) : VAll C F L Hs H os vs ds := by
  induction x with
  | nil => exact .nil
  | cons r t n ih => exact .cons (r.from h) ih n
theorem VAll.fresh {vs : List V} {ds : List D} (x : VAll C F L Hs H os vs ds) : ∀ {j : Nat} {w : V} {e : D}, os[j]? = some true → vs[j]? = some w → ds[j]? = some e → isFr e = true → ∃ p, w = .ref p ∧ Hs p = none := by
  induction x with
  | nil => intro j w e h; simp at h
  | cons r t n ih =>
    intro j w e h1 h2 h3 h4
    cases j with
    | zero =>
      simp at h1 h2 h3
      subst h1 h2 h3
      rename_i vv dd _ _
      have r2 := r
      simp only [Vok, lvO, h4, if_true] at r2
      obtain ⟨p, o, e1, _, e2, _⟩ := Fr.at_ r2
      exact ⟨p, e1, e2⟩
    | succ j => exact ih (by simpa using h1) (by simpa using h2) (by simpa using h3) h4
theorem VAll.length {vs : List V} {ds : List D} (x : VAll C F L Hs H os vs ds) : vs.length = ds.length ∧ vs.length = os.length := by
  induction x with
  | nil => exact ⟨rfl, rfl⟩
  | cons r t n ih => simp only [List.length_cons]; omega
theorem Vok.ext {v : V} {d : D} (x : Vok C F L Hs H (lvO o) v d) (e : Ext F L H F1 L1 H1) : Vok C F1 L1 Hs H1 (lvO o) v d := by
  cases o with
  | false => exact Rep.up e.ff e.ll (show Rep C F L v d from x)
  | true =>
    by_cases h : isFr d = true
    · have x' : Fr C F L Hs H v d := by simpa [Vok, lvO, h] using x
      exact Vok.fr (x'.ext e)
    · have x' : Rep C F L v d := by simpa [Vok, lvO, h] using x
      exact Vok.re (by simpa using h) (x'.up e.ff e.ll)
theorem m_lnil : PA X [] (tL C W [] fun _ s => .ok [] s) := PA.imp pa_nil fun σ H Q ⟨F, L, S, ρ, k, en, q⟩ => q.now k [] .nil
theorem m_lcons (hs : starEach (a :: es) X.env = (false, eval a X.env) :: starEach es X.env) (ha : PE X a (tE C W (lvO o) ma)) (he : PA X es (tL C W os ms)) :
    PA X (a :: es) (tL C W (o :: os) fun ρ s => (ma ρ s).bind fun d s => (ms ρ s).bind fun ds s => .ok (d :: ds) s) := by
  refine PA.imp (pa_cons ha he hs) fun σ H Q ⟨F, L, S, ρ, k, en, q⟩ => ⟨F, L, S, ρ, k, en, q.bind.imp fun F1 L1 H1 S1 x e1 k1 q1 v1 r1 => ?_⟩
  refine ⟨F1, L1, S1, ρ, k1, en.ext e1, q1.bind.imp fun F2 L2 H2 S2 ds e2 k2 q2 vs rs => q2.now k2 _ (.cons (Vok.ext r1 e2) (rs.from fun a h => e1.none_of h) fun ho hd j w e h1 h2 h3 h4 hw => ?_)⟩
  subst ho hw
  obtain ⟨p, e3, n⟩ := rs.fresh h1 h2 h3 h4
  have r' : Fr C F1 L1 H H1 w x := by simpa [Vok, lvO, hd] using r1
  obtain ⟨p', o, e4, h5, _⟩ := r'.at_
  rw [e3] at e4
  cases e4
  rw [n] at h5
  cases h5
theorem EnvOk.setO1 {i : Nat} {v : V} {d : D} (en1 : EnvOk C F L H ρ σ) (r : Fr C F L (fun _ => none) H v d) (other : ∀ {m : Nat} {e : D} {w : V}, ρ[m]? = some (.own e) → σ[m]? = some (some w) → w ≠ v) : EnvOk C F L H (MP.setO ρ i d) (σ.set i (some v)) where
  len := by unfold MP.setO; rw [List.length_set, List.length_set]; exact en1.len
  slot := fun j z x h1 h2 => by
    unfold MP.setO at h1
    rcases set_get h1 with ⟨e1, rfl, _⟩ | ⟨n1, h1⟩
    · rcases set_get h2 with ⟨_, rfl, _⟩ | ⟨n2, _⟩
      · exact ⟨v, rfl, r⟩
      · exact absurd e1 n2
    · rcases set_get h2 with ⟨e2, _, _⟩ | ⟨_, h2⟩
      · exact absurd e2 n1
      · exact en1.slot j z x h1 h2
  sep := fun j k e e' w h1 h2 h3 h4 => by
    unfold MP.setO at h1 h2
    rcases set_get h1 with ⟨a1, _, _⟩ | ⟨n1, h1⟩ <;> rcases set_get h2 with ⟨a2, _, _⟩ | ⟨n2, h2⟩
    · exact a1.symm.trans a2
    · rcases set_get h3 with ⟨_, b1, _⟩ | ⟨z, _⟩
      · rcases set_get h4 with ⟨z, _⟩ | ⟨_, h4⟩
        · exact absurd z n2
        · cases b1; exact absurd rfl (other h2 h4)
      · exact absurd a1 z
    · rcases set_get h4 with ⟨_, b1, _⟩ | ⟨z, _⟩
      · rcases set_get h3 with ⟨z, _⟩ | ⟨_, h3⟩
        · exact absurd z n1
        · cases b1; exact absurd rfl (other h1 h3)
      · exact absurd a2 z
    · rcases set_get h3 with ⟨z, _⟩ | ⟨_, h3⟩
      · exact absurd z n1
      · rcases set_get h4 with ⟨z, _⟩ | ⟨_, h4⟩
        · exact absurd z n2
        · exact en1.sep j k e e' w h1 h2 h3 h4
def setVals : List (Bool × Nat) → List V → Sg → Sg
  | [], _, σ => σ
  | _ :: _, [], σ => σ
  | (_, i) :: is, v :: vs, σ => setVals is vs (σ.set i (some v))
/-- all stored -/
theorem par_ok (x : Ext F0 L0 H0 F L H) (hHs : ∀ a, Hs a = none → H0 a = none) : ∀ {is : List (Bool × Nat)} {vs : List V} {ds : List D} {ρ ρ' : Env'} {σ : Sg}, VAll C F L Hs H (is.map (·.1)) vs ds → setPar ρ is ds = some ρ' → EnvOk C F L H ρ σ → OwnNew H0 ρ σ →
    (∀ (m : Nat) (e : D) (w : V) (j : Nat) (u : V) (f : D), ρ[m]? = some (.own e) → σ[m]? = some (some w) → (is.map (·.1))[j]? = some true → vs[j]? = some u → ds[j]? = some f → isFr f = true → w ≠ u) →
    EnvOk C F L H ρ' (setVals is vs σ) ∧ OwnNew H0 ρ' (setVals is vs σ)
  | [], _, _, ρ, ρ', σ, .nil, h, en, ow, _ => by simp [setPar] at h; subst h; exact ⟨en, ow⟩
  | (o, i) :: is, v :: vs, d :: ds, ρ, ρ', σ, .cons r t n, h, en, ow, dis => by
    simp only [setPar] at h
    split at h
    · cases h
    · rename_i hc
      unfold setVals
      cases o with
      | true =>
        have hd : isFr d = true := by simpa using hc
        have r' : Fr C F L Hs H v d := by simpa [Vok, lvO, hd] using r
        obtain ⟨p, ob, hv, _, np, _⟩ := r'.at_
        simp only [if_true] at h
        refine par_ok x hHs t h (en.setO1 r'.own fun {m e w} h1 h2 => dis m e w 0 v d h1 h2 rfl rfl rfl hd) (ow.setO hv (hHs _ np)) fun m e w j u f h1 h2 h3 h4 h5 h6 => ?_
        unfold setO at h1
        rcases set_get h1 with ⟨e1, _, _⟩ | ⟨n1, h1⟩
        · rcases set_get h2 with ⟨_, b, _⟩ | ⟨n2, _⟩
          · cases b
            exact (n rfl hd j u f h3 h4 h5 h6).symm
          · exact absurd e1 n2
        · rcases set_get h2 with ⟨e2, _, _⟩ | ⟨_, h2⟩
          · exact absurd e2 n1
          · exact dis m e w (j + 1) u f h1 h2 (by simpa using h3) (by simpa using h4) (by simpa using h5) h6
      | false =>
        have r' : Rep C F L v d := r
        simp only [Bool.false_eq_true, if_false] at h
        refine par_ok x hHs t h (en.setI r') ow.setI fun m e w j u f h1 h2 h3 h4 h5 h6 => ?_
        unfold setI at h1
        rcases set_get h1 with ⟨_, b, _⟩ | ⟨n1, h1⟩
        · cases b
        · rcases set_get h2 with ⟨e2, _, _⟩ | ⟨_, h2⟩
          · exact absurd e2 n1
          · exact dis m e w (j + 1) u f h1 h2 (by simpa using h3) (by simpa using h4) (by simpa using h5) h6
/-- a, b = e1, e2: by a rule whose reading leans on tL -/
theorem s_par {st : Stmt} {is : List (Bool × Nat)} {t : TS} (h : PS X st t)
    (ht : ∀ D' σ H, tL C W (is.map (·.1)) ms σ H (fun vs H1 => ∀ H2, (H2 = H1 ∨ ∃ p, H1 p = none ∧ H2 = upd H1 p (.tup vs)) → D'.nx (setVals is vs σ) H2) → t D' σ H) :
    PS X st (tS C F0 L0 H0 W lv fun ρ s => RS.of (ms ρ s) ρ fun ds s => RS.of (R.of (setPar ρ is ds) s) ρ fun ρ' s => .nx ρ' s) := by
  refine PS.imp h fun D' σ H ⟨F, L, S, ρ, x, k, en, ow, q⟩ => ht _ _ _ ⟨F, L, S, ρ, k, en, (Sn.of x en ow (Grow.refl _ _) q).imp fun F1 L1 H1 S1 ds e1 k1 ⟨x1, en1, g1, q1⟩ vs r H2 hH2 => ?_⟩
  obtain ⟨ρ', h, q1⟩ := q1.got
  have dis : ∀ (m : Nat) (e : D) (w : V) (j : Nat) (u : V) (f : D), ρ[m]? = some (.own e) → σ[m]? = some (some w) → (is.map (·.1))[j]? = some true → vs[j]? = some u → ds[j]? = some f → isFr f = true → w ≠ u := fun m e w j u f h1 h2 h3 h4 h5 h6 hw => by
    obtain ⟨w', q4, q5⟩ := en.own h1
    rw [h2] at q4
    cases q4
    obtain ⟨p, o, e2, q6, _⟩ := q5.at_
    obtain ⟨p', e3, n⟩ := r.fresh h3 h4 h5 h6
    rw [hw, e3] at e2
    cases e2
    rw [n] at q6
    cases q6
  obtain ⟨en2, ow2⟩ := par_ok x1 (fun a h => x.none_of h) r h en1 ow dis
  rcases hH2 with rfl | ⟨p, n, rfl⟩
  · exact q1 _ _ _ _ x1 g1 k1 en2 ow2
  · exact q1 _ _ _ _ (x1.laid n) g1 (k1.laid n) (en2.ext ((Ext.refl _ _ _).laid n)) ow2
end
end MP

/-! MPA: exceptions raised and caught. -/
namespace MP
open PySem PySem.Spec PyProof.Rows L2
/-- an own exception class by its name -/
structure ExcAt (C : Cn) (B : Program × World × PySem.W.Frag × (Str → Option Value) × Heap × Around) (x : Str) (c n : Nat) : Prop where
  ex : ∃ (k : Nat) (fI : Addr) (fd : FuncData), OexC B.2.2.1 (C.cx c) ∧ PySem.W.findIn B.2.2.1 (.ref (C.cx c)) "__init__" = some (some (.ref fI)) ∧ PySem.W.typeIn B.2.2.1 (.ref fI) = some (.type "function") ∧ Room (k + 1) B.2.2.2.2.2 ∧ B.2.2.2.1 x = some (.ref (C.cx c)) ∧
    ((n = 0 ∧ FnOk B.1 B.2.1 B.2.2.1 B.2.2.2.1 B.2.2.2.2.1 (L2.CX B.1 B.2.1) k fI fd [kself] (spX0 (C.cx c)) ∧ Binds B.2.2.1 fd [kself] []) ∨
     (n = 1 ∧ ∃ y, FnOk B.1 B.2.1 B.2.2.1 B.2.2.2.1 B.2.2.2.2.1 (L2.CX B.1 B.2.1) k fI fd [kself, y] (spX1 (C.cx c) (xfN c)) ∧ Binds B.2.2.1 fd [kself, y] []))
def Cx.b6 (X : Cx) : Program × World × PySem.W.Frag × (Str → Option Value) × Heap × Around := (X.prog, X.w, X.K, X.mg, X.base, X.A)
theorem del_upd {H : Hp} {a : Addr} {o : HO} (n : H a = none) : del (upd H a o) a = H := by
  funext b
  unfold del
  split
  · rename_i h; rw [h, n]
  · rename_i h; exact upd_ne h
section
variable {C : Cn} {F0 : Hp} {L0 : List Addr} {H0 : Hp} {W : WX} {X : Cx} {lv lw : Lv} {a b c : Expr} {pos : Pos} {ma mb mc : Env' → Sto → R D} {F F' F1 : Hp} {L L' L1 : List Addr} {H H' H1 Hs : Hp} {S : Sto} {ρ ρ' : Env'} {σ σ' : Sg} {D' : Ends} {es : List Expr} {ms : Env' → Sto → R (List D)} {os : List Bool} {o : Bool}
theorem s_rais0 {x : Str} {cn : Nat} {p p2 : Pos} (hc : X.calm = true) (tk : Takes X W) (hx : ExcAt C (Cx.b6 X) x cn 0) (hg : Gl X x) (hd : (x == ("__debug__" : Str)) = false) :
    PS X (.Raise (some (.Call (.Name x p) [] [] pos)) none p2) (tS C F0 L0 H0 W lv fun ρ s => .exc ⟨cn, none⟩ ρ s) := by
  obtain ⟨k, fI, fd, T, iC, tI, hr, hm, h⟩ := hx.ex
  rcases h with ⟨_, F1, hb⟩ | ⟨h, _⟩
  · refine PS.imp (ps_raise hc tk (pmk_oex0 T iC tI F1 hr hb (passes_call tk fun _ _ _ _ h => h.elim) hg hm hd)) fun D' σ H ⟨F, L, S, ρ, x, k, en, ow, q⟩ => ?_
    intro a n
    refine ⟨a, rfl, upd_same, rfl, upd_same, ?_⟩
    rw [del_upd n]
    exact q _ _ _ _ _ x (Grow.refl _ _) k rfl en ow
  · cases h
theorem s_rais1 {x : Str} {cn : Nat} {e : Expr} {p p2 : Pos} (hc : X.calm = true) (tk : Takes X W) (hx : ExcAt C (Cx.b6 X) x cn 1) (hg : Gl X x) (hd : (x == ("__debug__" : Str)) = false) (hs : starEach [e] X.env = [(false, eval e X.env)]) (ha : PA X [e] (tA C W ms)) :
    PS X (.Raise (some (.Call (.Name x p) [e] [] pos)) none p2) (tS C F0 L0 H0 W lv fun ρ s => RS.of (ms ρ s) ρ fun ds s => match ds with
      | [d] => .exc ⟨cn, some d⟩ ρ s
      | _ => .stuck) := by
  obtain ⟨k, fI, fd, T, iC, tI, hr, hm, h⟩ := hx.ex
  rcases h with ⟨h, _⟩ | ⟨_, y, F1, hb⟩
  · cases h
  · refine PS.imp (ps_raise hc tk (pmk_oex (ds := []) (dvs := []) T iC tI F1 hr hb .nil (passes_call tk fun _ _ _ _ h => h.elim) hg hm ha hd (by rw [hs]; rfl) rfl)) fun D' σ H ⟨F, L, S, ρ, x, k, en, ow, q⟩ => ?_
    refine ⟨F, L, S, ρ, k, en, (Sn.of x en ow (Grow.refl _ _) q).imp fun F1 L1 H1 S1 ds e1 k1 ⟨x1, en1, g1, q1⟩ vs r => ?_⟩
    match ds, vs, r, q1 with
    | [], _, _, q1 => exact False.elim q1
    | [d], [v], .cons rv .nil, q1 =>
      refine ⟨by simp, fun a n => ⟨a, v, rfl, upd_same, fun dx nd ne => ⟨rfl, dx, _, upd_same, by rw [upd_ne ne]; exact upd_same, ?_, ?_⟩⟩⟩
      · rw [upd_ne ne] at nd; exact nd
      · have nd' : H1 dx = none := by rw [upd_ne ne] at nd; exact nd
        have e : upd (del (upd (upd (upd H1 a (exo a (C.cx cn) none)) dx (exd dx [(xfN cn, v)])) a (exo a (C.cx cn) (some dx))) a) dx (.xd [(xfN cn, v)]) = upd H1 dx (.xd [(xfN cn, v)]) := by
          funext b
          by_cases h1 : b = dx
          · subst h1; rw [upd_same, upd_same]
          · rw [upd_ne h1, upd_ne h1]
            by_cases h2 : b = a
            · subst h2; rw [del_same, n]
            · rw [del_ne h2, upd_ne h2, upd_ne h1, upd_ne h2]
        rw [e]
        exact q1 _ _ _ _ _ (x1.laid nd') g1 (k1.laid nd') ⟨dx, v, rfl, upd_same, rv⟩ (en1.ext ((Ext.refl _ _ _).laid nd')) ow
    | _ :: _ :: _, _, _, q1 => exact False.elim q1
/-! ### try -/
theorem EnvOk.setN {i : Nat} {x : Option V} (en : EnvOk C F L H ρ σ) : EnvOk C F L H (ρ.set i .no) (σ.set i x) where
  len := by rw [List.length_set, List.length_set]; exact en.len
  slot := fun j z y h1 h2 => by
    rcases set_get h1 with ⟨e1, rfl, _⟩ | ⟨n1, h1⟩
    · trivial
    · rcases set_get h2 with ⟨e2, _, _⟩ | ⟨_, h2⟩
      · exact absurd e2 n1
      · exact en.slot j z y h1 h2
  sep := fun j k e e' w h1 h2 h3 h4 => by
    rcases set_get h1 with ⟨_, h, _⟩ | ⟨n1, h1⟩
    · cases h
    · rcases set_get h2 with ⟨_, h, _⟩ | ⟨n2, h2⟩
      · cases h
      · rcases set_get h3 with ⟨z, _⟩ | ⟨_, h3⟩
        · exact absurd z n1
        · rcases set_get h4 with ⟨z, _⟩ | ⟨_, h4⟩
          · exact absurd z n2
          · exact en.sep j k e e' w h1 h2 h3 h4
theorem OwnNew.setN {i : Nat} {x : Option V} (ow : OwnNew H0 ρ σ) : OwnNew H0 (ρ.set i .no) (σ.set i x) := fun j e w h1 h2 => by
  rcases set_get h1 with ⟨_, h, _⟩ | ⟨n1, h1⟩
  · cases h
  · rcases set_get h2 with ⟨z, _⟩ | ⟨_, h2⟩
    · exact absurd z n1
    · exact ow j e w h1 h2
/-- what a suite starts with: the error x -/
def tHd (C : Cn) (F0 : Hp) (L0 : List Addr) (H0 : Hp) (lv : Lv) (xs : List Nat) (h : Hdl) (a : Addr) (cls : Value) (d : Option Addr) : TS := fun D' σ H => ∃ x F L S ρ, cls = .ref (C.cx x.c) ∧ xs.contains x.c = true ∧ subX h.c x.c = true ∧ XOk C F L H x d ∧ (∀ i, h.nm = some i → i < σ.length → σ[i]? = some (some (.ref a))) ∧
  Ext F0 L0 H0 F L H ∧ Ok C F L H S ∧ EnvOk C F L H ρ σ ∧ OwnNew H0 ρ σ ∧ ∀ W, Sn C F0 L0 H0 F L W lv D' (evHSt x h.h ρ S)
inductive Hr (C : Cn) (F0 : Hp) (L0 : List Addr) (H0 : Hp) (lv : Lv) (xs : List Nat) : List Hdl → List Cl2 → Prop
  | nil : Hr C F0 L0 H0 lv xs [] []
  | cons {h : Hdl} {hs : List Hdl} {l : List Cl2} : Hr C F0 L0 H0 lv xs hs l → Hr C F0 L0 H0 lv xs (h :: hs) ((.ref (C.cx h.c), h.nm, tHd C F0 L0 H0 lv xs h) :: l)
theorem Sn.noW {r : RS} {W W' : WX} {Fs : Hp} {Ls : List Addr} (h : ∀ x ρ s, r ≠ .exc x ρ s) (q : Sn C F0 L0 H0 Fs Ls W lv D' r) : Sn C F0 L0 H0 Fs Ls W' lv D' r := by
  cases r with
  | nx ρ s => exact q
  | ret d s => exact q
  | exc x ρ s => exact absurd rfl (h x ρ s)
  | stuck => exact q
theorem evHSt_nx {x : Exn} {h : HSt} {ρ : Env'} {s : Sto} : ∀ y ρ' s', evHSt x h ρ s ≠ .exc y ρ' s' := by
  intro y ρ' s'
  cases h with
  | asg i e => simp only [evHSt]; cases evEH x e <;> simp [R.of, RS.of]
  | ret e =>
    simp only [evHSt]
    cases evEH x e with
    | none => simp [R.of, RS.of]
    | some d => simp only [R.of_some, RS.of_ok]; split <;> simp
  | setI i k e =>
    simp only [evHSt]
    cases lstOwn ρ i with
    | none => simp [R.of, RS.of]
    | some o =>
      cases evEH x e with
      | none => simp [R.of, RS.of]
      | some d => simp only [R.of_some, RS.of_ok]; cases dSetI o (.int k) d <;> simp [R.of, RS.of]
theorem hr_ok {xs : List Nat} {hs : List Hdl} {l : List Cl2} (hl : Hr C F0 L0 H0 lv xs hs l) (hx : ∀ c, xs.contains c = true → ∀ h ∈ hs, PySem.W.exmOne X.K (.ref (C.cx c)) (.ref (C.cx h.c)) = some (subX h.c c)) {x : Exn} {Fs : Hp} {Ls : List Addr} {d : Option Addr} (hne : hs ≠ [] → xs.contains x.c = true)
    (g : Grow Fs Ls F L) (xk : Ext F0 L0 H0 F L H) (k : Ok C F L H S) (o : XOk C F L H x d) (en : EnvOk C F L H ρ σ) (ow : OwnNew H0 ρ σ) (q : Sn C F0 L0 H0 Fs Ls W lv D' (evHs xs x hs ρ S)) : wG X.K W D' l (.ref (C.cx x.c)) d σ H := by
  induction hl with
  | nil => exact q _ _ _ _ _ xk g k o en ow
  | @cons h hs l hl ih =>
    have hc := hne (by simp)
    unfold evHs at q
    rw [if_pos hc] at q
    have e := hx x.c hc h List.mem_cons_self
    have rest : subX h.c x.c = false → wG X.K W D' l (.ref (C.cx x.c)) d σ H := fun hf => ih (fun c hc h' hh => hx c hc h' (List.mem_cons_of_mem _ hh)) (fun _ => hc) (by rw [if_neg (by rw [hf]; decide)] at q; exact q)
    cases hn : h.nm with
    | none =>
      refine ⟨_, e, fun ht a na => ?_, rest⟩
      rw [if_pos ht] at q
      unfold evHd at q
      rw [hn] at q
      exact ⟨x, F, L, S, ρ, rfl, hc, ht, o, fun i hi => (by rw [hn] at hi; cases hi), xk, k, en, ow, fun W' => (q.from g).noW evHSt_nx⟩
    | some i =>
      refine ⟨_, e, fun ht a na => ?_, rest⟩
      rw [if_pos ht] at q
      unfold evHd at q
      rw [hn] at q
      refine ⟨x, F, L, S, ρ.set i .no, rfl, hc, ht, o, fun j hj hlt => ?_, xk, k, en.setN, ow.setN, fun W' => ?_⟩
      · rw [hn] at hj; cases hj
        rw [List.length_set] at hlt
        exact List.getElem?_set_self hlt
      · have q := q.from g
        dsimp only at q
        have hnx := evHSt_nx (x := x) (h := h.h) (ρ := ρ.set i .no) (s := S)
        cases hr : evHSt x h.h (ρ.set i .no) S with
        | nx ρ' s' =>
          rw [hr] at q
          exact fun F' L' H' σ' x' g' k' en' ow' => q F' L' H' (σ'.set i none) x' g' k' en'.setN ow'.setN
        | ret d s' => rw [hr] at q; exact q
        | exc y ρ' s' => exact absurd hr (hnx y ρ' s')
        | stuck => rw [hr] at q; exact q
theorem s_try {body orelse : List Stmt} {h0 : ExceptHandler} {hds : List ExceptHandler} {l : List Cl2} {xs : List Nat} {hs : List Hdl} {mb mo : Env' → Sto → RS} (ho : PSs X orelse (tS C F0 L0 H0 W lv mo)) (hst : X.stack = X.env :: X.outer) (hf : X.env.frame = some X.env.locals) (hN : X.N.Nodup) (tk : Takes X W)
    (hb : ∀ (W : WX) (pn : List (Addr × Obj)) (xe : Value → Shared → Prop), Takes (X.tr pn xe) W → PassesOwn (model X.prog X.w) X.A X.env xe → PSs (X.tr pn xe) body (tS C F0 L0 H0 W lv mb))
    (hh : HdsG X (h0 :: hds) l) (hl : Hr C F0 L0 H0 lv xs hs l) (hx : ∀ c, xs.contains c = true → ∀ h ∈ hs, PySem.W.exmOne X.K (.ref (C.cx c)) (.ref (C.cx h.c)) = some (subX h.c c)) :
    PS X (.Try body (h0 :: hds) orelse [] pos) (tS C F0 L0 H0 W lv fun ρ s => match mb ρ s with
      | .nx ρ' s' => mo ρ' s'
      | .exc x ρ' s' => evHs xs x hs ρ' s'
      | .ret d s' => .ret d s'
      | .stuck => .stuck) := by
  refine PS.imp (ps_try_G ho hst hf hN tk hb hh) fun D' σ H ⟨F, L, S, ρ, x, k, en, ow, q⟩ => ⟨F, L, S, ρ, x, k, en, ow, ?_⟩
  dsimp only at q
  cases e : mb ρ S with
  | nx ρ' s' =>
    rw [e] at q
    exact fun F' L' H' σ' x' g' k' en' ow' => ⟨F', L', s', ρ', x', k', en', ow', q.from g'⟩
  | ret d s' => rw [e] at q; exact q
  | stuck => rw [e] at q; exact q
  | exc y ρ' s' =>
    rw [e] at q
    dsimp only at q
    by_cases hne : hs = []
    · subst hne
      exact fun F' L' H' dx σ' x' g' k' o' en' ow' => hr_ok hl hx (fun h => absurd rfl h) g' x' k' o' en' ow' q
    · have hc : xs.contains y.c = true := by
        cases hs with
        | nil => exact absurd rfl hne
        | cons h t =>
          unfold evHs at q
          by_cases hc : xs.contains y.c = true
          · exact hc
          · rw [if_neg hc] at q; exact False.elim q
      exact fun F' L' H' dx σ' x' g' k' o' en' ow' => hr_ok hl hx (fun _ => hc) g' x' k' o' en' ow' q
/-! ### an own list handed over for a call that keeps nothing of it -/
theorem rep_feq {v : V} {d e : D} (h : feq d e = true) (r : Rep C F' L v e) : d = e ∧ Rep C F L v e := by
  cases r <;> cases d <;> simp [feq] at h
  · exact ⟨rfl, .non⟩
  · subst h; exact ⟨rfl, .bl _⟩
  · subst h; exact ⟨rfl, .int _⟩
  · subst h; exact ⟨rfl, .str _ (by assumption)⟩
  · subst h; exact ⟨rfl, .ref (by assumption)⟩
theorem rep_feqs : ∀ {vs : List V} {ds es : List D}, feqs ds es = true → RepAll C F' L vs es → ds = es ∧ RepAll C F L vs es
  | _, [], [], _, .nil => ⟨rfl, .nil⟩
  | _, d :: ds, e :: es, h, .cons r t => by
    simp only [feqs, Bool.and_eq_true] at h
    obtain ⟨e1, r1⟩ := rep_feq (F := F) h.1 r
    obtain ⟨e2, r2⟩ := rep_feqs h.2 t
    exact ⟨by rw [e1, e2], .cons r1 r2⟩
  | _, [], _ :: _, h, _ => by simp [feqs] at h
  | _, _ :: _, [], h, _ => by simp [feqs] at h
theorem feq_eq {d e : D} (h : feq d e = true) : d = e := by
  cases d <;> cases e <;> simp [feq] at h <;> first | rfl | (subst h; rfl)
theorem feqs_eq : ∀ {ds es : List D}, feqs ds es = true → ds = es
  | [], [], _ => rfl
  | d :: ds, e :: es, h => by
    simp only [feqs, Bool.and_eq_true] at h
    rw [feq_eq h.1, feqs_eq h.2]
  | [], _ :: _, h => by simp [feqs] at h
  | _ :: _, [], h => by simp [feqs] at h
theorem stoSame_at : ∀ {s t : Sto}, stoSame s t = true → s = t ∧ ∀ (n : Nat) (c : Cell), t[n]? = some c → ∃ ys, c = .lst ys ∧ feqs ys ys = true
  | [], [], _ => ⟨rfl, fun n c h => by simp at h⟩
  | .lst xs :: s, .lst ys :: t, h => by
    simp only [stoSame, Bool.and_eq_true] at h
    obtain ⟨e, q⟩ := stoSame_at h.2
    have e2 := feqs_eq h.1
    subst e2
    refine ⟨by rw [e], fun n c hc => ?_⟩
    cases n with
    | zero => simp at hc; exact ⟨xs, hc.symm, h.1⟩
    | succ n => exact q n c (by simpa using hc)
  | [], _ :: _, h => by simp [stoSame] at h
  | .lst _ :: _, [], h => by simp [stoSame] at h
  | .lst _ :: _, .ins _ _ :: _, h => by simp [stoSame] at h
  | .ins _ _ :: _, [], h => by simp [stoSame] at h
  | .ins _ _ :: _, _ :: _, h => by simp [stoSame] at h
theorem en_frz {i : Nat} {d : D} (k : Ok C F L H S) (en : EnvOk C F L H ρ σ) (hi : ρ[i]? = some (.own d)) : ∃ F', Ok C F' L H S ∧ Sub F F' ∧ EnvOk C F' L H (MP.setI ρ i d) σ := by
  obtain ⟨v, hs, r⟩ := en.own hi
  have key : ∃ F', Ok C F' L H S ∧ Rep C F' L v d ∧ Sub F F' ∧ ∀ o, o ≠ v → ∀ e, Fr C F L (fun _ => none) H o e → Fr C F' L (fun _ => none) H o e := by
    cases r with
    | @lst p' vs ds n' h1 z f l r =>
      refine ⟨_, k.freeze h1 f l, .lst upd_same z (r.up (Sub.fz f) (List.prefix_refl _)), Sub.fz f, fun o ho e q => ?_⟩
      cases q with
      | lst n a b c d e => exact .lst n a b (by unfold fz; rw [upd_ne fun z => ho (by rw [z])]; exact c) d (e.up (Sub.fz f) (List.prefix_refl _))
      | dic n a b c d e => exact .dic n a b (by unfold fz; rw [upd_ne fun z => ho (by rw [z])]; exact c) d (e.up (Sub.fz f) (List.prefix_refl _))
    | @dic p' vs ds n' h1 z f l r =>
      refine ⟨_, k.freeze h1 f l, .dic upd_same z (r.up (Sub.fz f) (List.prefix_refl _)), Sub.fz f, fun o ho e q => ?_⟩
      cases q with
      | lst n a b c d e => exact .lst n a b (by unfold fz; rw [upd_ne fun z => ho (by rw [z])]; exact c) d (e.up (Sub.fz f) (List.prefix_refl _))
      | dic n a b c d e => exact .dic n a b (by unfold fz; rw [upd_ne fun z => ho (by rw [z])]; exact c) d (e.up (Sub.fz f) (List.prefix_refl _))
  obtain ⟨F', k', r', sf, oth⟩ := key
  refine ⟨F', k', sf, ⟨?_, fun j z y h1 h2 => ?_, fun j k e e' w h1 h2 h3 h4 => ?_⟩⟩
  · unfold MP.setI; rw [List.length_set]; exact en.len
  · unfold MP.setI at h1
    rcases set_get h1 with ⟨rfl, rfl, _⟩ | ⟨n1, h1⟩
    · rw [hs] at h2; cases h2; exact ⟨v, rfl, r'⟩
    · have q' := en.slot j z y h1 h2
      cases z with
      | no => trivial
      | imm e => obtain ⟨w, q1, q2⟩ := q'; exact ⟨w, q1, q2.up sf (List.prefix_refl _)⟩
      | own e =>
        obtain ⟨w, rfl, q2⟩ := q'
        exact ⟨w, rfl, oth w (fun z => n1 (en.sep i j d e v hi h1 hs (z ▸ h2))) e q2⟩
  · unfold MP.setI at h1 h2
    rcases set_get h1 with ⟨_, h, _⟩ | ⟨n1, h1⟩
    · cases h
    · rcases set_get h2 with ⟨_, h, _⟩ | ⟨n2, h2⟩
      · cases h
      · exact en.sep j k e e' w h1 h2 h3 h4
theorem m_callT {ex : Expr} {i : Nat} {m : Env' → Sto → R D} (p : PE X ex (tE C W lv m)) : PE X ex (tE C W .fr fun ρ s => match ownAt ρ i with
    | some d => (m (MP.setI ρ i d) s).nox.bind fun r s2 => if r.flat && stoSame s s2 then .ok r s2 else .stuck
    | none => .stuck) := by
  refine PE.imp p fun σ H Q ⟨F, L, S, ρ, k, en, q⟩ => ?_
  dsimp only at q
  cases ho : ownAt ρ i with
  | none => rw [ho] at q; exact False.elim q
  | some d =>
    rw [ho] at q
    dsimp only at q
    obtain ⟨F', k', sf, en'⟩ := en_frz k en (ownAt_some ho)
    refine ⟨F', L, S, MP.setI ρ i d, k', en', ?_⟩
    cases e : m (MP.setI ρ i d) S with
    | stuck => rw [e] at q; exact q
    | exc y s => rw [e] at q; exact False.elim q
    | ok r S2 =>
      rw [e] at q
      simp only [R.nox_ok, R.bind_ok] at q
      split at q
      · rename_i hc
        simp only [Bool.and_eq_true] at hc
        obtain ⟨e2, hcell⟩ := stoSame_at hc.2
        subst e2
        intro F2 L2 H2 x2 k2 v rv
        have hL : L2 = L := by
          obtain ⟨t, ht⟩ := x2.ll
          have l1 := k2.len
          have l2 := k.len
          rw [← ht, List.length_append] at l1
          have : t = [] := List.length_eq_zero_iff.mp (by omega)
          rw [← ht, this, List.append_nil]
        subst hL
        have xx : Ext F L2 H F L2 H2 := ⟨Sub.refl _, List.prefix_refl _, x2.keep, x2.there, fun _ _ h => .inl h, fun _ h => .inl h⟩
        have sF : Sub F F2 := sf.trans x2.ff
        have kk : Ok C F L2 H2 S := ⟨sF.trans k2.sub, k.fl, k.nd, k.len, fun n c hn => by
          obtain ⟨ys, rfl, hy⟩ := hcell n c hn
          obtain ⟨a, h1, h2⟩ := k2.cells n _ hn
          cases h2 with
          | lst q1 z r => exact ⟨a, h1, .lst q1 z (rep_feqs hy r).2⟩⟩
        have rr : Rep C F L2 v r := by
          have hfl := hc.1
          have r0 : Rep C F2 L2 v r := by
            cases lv with
            | rep => exact rv
            | fr =>
              have hf : isFr r = false := by cases r <;> first | rfl | cases hfl
              simpa [Vok, hf] using rv
            | pk =>
              have rv : Pk C F2 L2 H2 v r := rv
              cases rv with
              | rep r => exact r
              | lst _ _ _ _ => cases hfl
              | dic _ _ _ _ => cases hfl
          cases r0 <;> first | exact .non | exact .bl _ | exact .int _ | exact .str _ (by assumption) | cases hfl
        exact q F L2 H2 xx kk v (Vok.re (by have hfl := hc.1; cases r <;> first | rfl | cases hfl) rr)
      · exact False.elim q
end
end MP

/-! MP: what is looked at, the lookers. -/
namespace MP
open PySem PySem.Spec PyProof.Rows L2
def notStar : Expr → Bool | .Starred _ _ => false | _ => true
def notSl : Expr → Bool | .Slice _ _ _ _ => false | _ => true
def notSet : Expr → Bool | .Set _ _ _ => false | _ => true
def notCall0 : Expr → Bool | .Call _ _ _ _ => false | _ => true
def notComp : Expr → Bool | .ListComp _ _ _ _ | .SetComp _ _ _ _ | .DictComp _ _ _ _ _ => false | _ => true
def plainT : Expr → Bool | .UnaryOp .Not _ _ | .BoolOp _ _ _ | .IfExp _ _ _ _ | .Compare _ _ _ _ => false | _ => true
theorem star_cons {a : Expr} {es : List Expr} {env : Env} (h : notStar a = true) : starEach (a :: es) env = (false, eval a env) :: starEach es env := by cases a <;> first | rfl | cases h
theorem star_one {a : Expr} {env : Env} (h : notStar a = true) : starEach [a] env = [(false, eval a env)] := star_cons h
theorem star_two {a b : Expr} {env : Env} (h : notStar a = true) (h2 : notStar b = true) : starEach [a, b] env = [(false, eval a env), (false, eval b env)] := by rw [star_cons h, star_one h2]
theorem star_none {pos : Pos} {env : Env} : ∀ {es : List Expr}, es.all notStar = true → (backTo pos (starEach es env)).any (·.1) = false
  | [], _ => rfl
  | e :: es, h => by
    simp only [List.all_cons, Bool.and_eq_true] at h
    rw [star_cons h.1]
    have := star_none (pos := pos) (env := env) h.2
    simpa [backTo] using this
theorem plainIx {b : Expr} (h : notSl b = true) : PlainIx b := fun o i => by cases b <;> first | rfl | cases h
theorem noSl {b : Expr} (h : notSl b = true) : NoSl b := fun o i => by cases b <;> first | rfl | cases h
theorem ab_of {o : Expr} {n : Str} {env : Env} {w : Sem Value} (h : notCall0 o = true) : attributeBase o n env w = w := by cases o <;> first | rfl | cases h
theorem fs_of {e : Expr} {env : Env} (h : notSet e = true) : ∀ x, foldedSetIterable e env x = pure x := fun x => by cases e <;> first | rfl | cases h
theorem bm_of {op : CmpOp} {e : Expr} (h : notSet e = true) : behindInMarks op e = false := by cases e <;> first | rfl | cases h
theorem it_of {e : Expr} {env : Env} (h : plainT e = true) : ∀ w, isTrue e env w = (do let v ← w; standAt e.pos; holding [v] (truthy v)) := fun w => by
  cases e <;> first | rfl | (cases h; done) | (rename_i op _ _; cases op <;> first | rfl | cases h)
theorem sw_of {e : Expr} {t : Option Expr} {l : Nat} {env : Env} (h : notComp e = true) : swapsWith e t l env = pure false := by cases e <;> first | rfl | cases h
def Lv.le : Lv → Lv → Bool
  | .pk, _ => true
  | .rep, .rep | .rep, .fr | .fr, .fr => true
  | _, _ => false
section
variable {C : Cn} {W : WX} {X : Cx} {lv lw : Lv} {a b c : Expr} {pos : Pos} {ma mb mc : Env' → Sto → R D} {es : List Expr} {ms : Env' → Sto → R (List D)}
theorem wk (h : lv.le lw = true) (p : PE X a (tE C W lw ma)) : PE X a (tE C W lv ma) := by
  cases lv <;> cases lw <;> first | exact p | exact pe_rep p | exact pe_rep (pe_fr p) | exact pe_fr p | cases h
theorem pe_bool1 {op : BoolOp} (h : PE X a (tE C W lv ma)) : PE X (.BoolOp op [a] pos) (tE C W lv ma) := ⟨fun pins s σ H Q I q => h.run pins s σ H Q I q⟩
theorem pw_of {op : BoolOp} {m : TT} (h : PT X (.BoolOp op es pos) m) : PW X (.BoolOp op es pos) m := ⟨fun w pins s σ H Q I q => h.run pins s σ H Q I q⟩
theorem m_tand {rest : List Expr} {m n : Env' → Sto → R Bool} (ha : PT X a (tT C W m)) (hb : PT X (.BoolOp .And (b :: rest) pos) (tT C W n)) : PT X (.BoolOp .And (a :: b :: rest) pos) (tT C W fun ρ s => (m ρ s).bind fun t s => if t then n ρ s else .ok false s) :=
  PT.imp (pw_and ha (pw_of hb)).pt fun σ H Q q => tT.and q
theorem m_tor {rest : List Expr} {m n : Env' → Sto → R Bool} (ha : PT X a (tT C W m)) (hb : PT X (.BoolOp .Or (b :: rest) pos) (tT C W n)) : PT X (.BoolOp .Or (a :: b :: rest) pos) (tT C W fun ρ s => (m ρ s).bind fun t s => if t then .ok true s else n ρ s) :=
  PT.imp (pw_or ha (pw_of hb)).pt fun σ H Q q => tT.or q
theorem m_tchain {op op' : CmpOp} {r r' : R2} {f g : D → D → Option Bool} (ho : OpR X (compareOp op) r) (hf : OpOk C .fr r (fun x y => (f x y).map .bl)) (ho' : OpR X (compareOp op') r') (hg : OpOk C .fr r' (fun x y => (g x y).map .bl))
    (hm : lastMarks [op, op'] [b, c] = false) (ha : PE X a (tE C W .pk ma)) (hb : PE X b (tE C W .pk mb)) (hc : PE X c (tE C W .pk mc)) :
    PT X (.Compare a [op, op'] [b, c] pos) (tT C W fun ρ s => (ma ρ s).bind fun x s => (mb ρ s).bind fun y s => (R.of (f x y) s).bind fun t s => if t then (mc ρ s).bind fun z s => R.of (g y z) s else .ok false s) := by
  refine PT.imp (pt_chain ho ho' ha hb hc hm) fun σ H Q ⟨F, L, S, ρ, k, en, q⟩ => ⟨F, L, S, ρ, k, en, q.bind.imp fun F1 L1 H1 S1 x e1 k1 q1 v1 r1 => ?_⟩
  refine ⟨F1, L1, S1, ρ, k1, en.ext e1, q1.bind.imp fun F2 L2 H2 S2 y e2 k2 q2 v2 r2 => ?_⟩
  obtain ⟨t, ht, q2⟩ := q2.bind.of
  have q2 := q2.now k2
  refine hf _ _ _ _ _ _ _ _ (.bl t) _ k2 (Pk.ext r1 e2) r2 (by show Option.map D.bl (f x y) = _; rw [ht]; rfl) fun F' L' H' v e k' r => ?_
  have r' : Rep C F' L' v (.bl t) := by simpa [Vok, isFr] using r
  cases r'
  refine ⟨t, rfl, ?_⟩
  cases t with
  | false =>
    have q3 := (q2.start e).now k'
    exact iteF ⟨false, rfl, q3⟩
  | true =>
    rw [if_pos rfl] at q2
    refine iteT ⟨F', L', S2, ρ, k', ((en.ext e1).ext e2).ext e, (q2.start e).bind.imp fun F3 L3 H3 S3 z e3 k3 q4 v3 r3 => ?_⟩
    obtain ⟨d, hd, q4⟩ := q4.of
    refine hg _ _ _ _ _ _ _ _ (.bl d) _ k3 ((Pk.ext r2 e).ext e3) r3 (by show Option.map D.bl (g y z) = _; rw [hd]; rfl) fun F4 L4 H4 v e4 k4 r4 => ?_
    have r5 : Rep C F4 L4 v (.bl d) := by simpa [Vok, isFr] using r4
    cases r5
    exact ⟨d, rfl, (q4.start e4).now k4⟩
end
/-! ### what is known around a def's body -/
/-- a form of a def's own choice: its parts, how they are read -/
structure Hook where
  mt : Scope → Expr → Option (List Expr)
  lv : Lv
  out : Lv
inductive FI where
  | fn (x : Str) (n : Nat) (fr : Bool)
  | hk (h : Hook)
  | exc (x : Str) (c n : Nat)
  | hs (h : Hook)
  | ht (h : Hook)
  | hm (m : Str) (n : Nat) (fr : Bool)
  | hf (g : Str)
  | hi (fr : Bool)
structure Gm where
  N : List Str
  sc : Scope
  own : List Str
  fns : List FI
  tk : List (Str × List Str)
  xc : List (Str × Nat)
/-- the expressions of a form -/
inductive PL (C : Cn) (W : WX) (X : Cx) (lv : Lv) : List Expr → (Env' → Sto → R (List D)) → Prop
  | nil : PL C W X lv [] fun _ s => .ok [] s
  | cons {e : Expr} {es : List Expr} {m : Env' → Sto → R D} {ms : Env' → Sto → R (List D)} : PE X e (tE C W lv m) → PL C W X lv es ms → PL C W X lv (e :: es) fun ρ s => (m ρ s).bind fun d s => (ms ρ s).bind fun ds s => .ok (d :: ds) s
def bltNames : List Str := ["len", "int", "list", "tuple", "sum", "str", "max", "all", "any", "range", "enumerate", "zip", "isinstance", "bool", "dict"]
/-- what stays alike through a def -/
structure Bs where
  prog : Program
  w : World
  K : PySem.W.Frag
  mg : Str → Option Value
  base : Heap
  A : Around
def Cx.bs (X : Cx) : Bs := ⟨X.prog, X.w, X.K, X.mg, X.base, X.A⟩
structure HookOk (C : Cn) (B : Bs) (h : Hook) (f : FS) : Prop where
  ex : ∀ (X : Cx) (W : WX) (ex : Expr) (es : List Expr) (ms : Env' → Sto → R (List D)), Cx.bs X = B → X.K = C.K → X.calm = true → X.A.units + 65 < cLine → Takes X W → h.mt X.env.scope ex = some es → PL C W X h.lv es ms → PE X ex (tE C W h.out fun ρ s => (ms ρ s).bind fun ds s => f ds s)
/-- a form whose parts are names -/
structure HookOkS (C : Cn) (B : Bs) (h : Hook) (f : FS) : Prop where
  ex : ∀ (X : Cx) (W : WX) (ex : Expr) (es : List Expr) (ms : Env' → Sto → R (List D)), Cx.bs X = B → X.K = C.K → X.calm = true → X.A.units + 65 < cLine → Takes X W → h.mt X.env.scope ex = some es → PL C W X h.lv es ms → (∀ ρ s x s', ms ρ s ≠ .exc x s') → PE X ex (tE C W h.out fun ρ s => (ms ρ s).bind fun ds s => f ds s)
/-- a form that is a comparison -/
structure HookOkT (C : Cn) (B : Bs) (h : Hook) (f : FS) : Prop where
  ex : ∀ (X : Cx) (W : WX) (ex : Expr) (es : List Expr) (ms : Env' → Sto → R (List D)), Cx.bs X = B → X.K = C.K → X.calm = true → X.A.units + 65 < cLine → Takes X W → h.mt X.env.scope ex = some es → PL C W X h.lv es ms → PE X ex (tE C W h.out fun ρ s => (ms ρ s).bind fun ds s => f ds s) ∧ PT X ex (tT C W fun ρ s => ((ms ρ s).bind fun ds s => f ds s).bind fun x s => R.of x.truth s)
structure FnB (C : Cn) (B : Bs) (x : Str) (n : Nat) (fr : Bool) (f : FS) : Prop where
  ex : ∃ (k : Nat) (a : Addr) (fd : FuncData) (ps : List Str), FnOk B.prog B.w B.K B.mg B.base (L2.CX B.prog B.w) k a fd ps (spD C n fr f) ∧ Room k B.A ∧ B.mg x = some (.ref a) ∧ PySem.W.keepIn B.K (.ref a) = true ∧ Binds B.K fd ps []
/-- a method of the class of the cells -/
structure MethB (C : Cn) (B : Bs) (m : Str) (n : Nat) (fr : Bool) (f : FS) : Prop where
  ex : ∃ (k : Nat) (a : Addr) (fd : FuncData) (ps : List Str), FnOk B.prog B.w B.K B.mg B.base (L2.CX B.prog B.w) k a fd ps (spD C (n + 1) fr f) ∧ Room k B.A ∧ Cls B.K (C.cI 0) ∧ Meth B.K (C.cI 0) m a ∧ Binds B.K fd ps []
structure FldB (C : Cn) (B : Bs) (g : Str) : Prop where
  cls : Cls B.K (C.cI 0)
  no : NoAttr B.K (C.cI 0) g
structure IaddB (C : Cn) (B : Bs) (fr : Bool) (f : FS) : Prop where
  ex : ∃ (k : Nat) (a : Addr) (fd : FuncData) (ps : List Str), FnOk B.prog B.w B.K B.mg B.base (L2.CX B.prog B.w) k a fd ps (spD C 2 fr f) ∧ Room k B.A ∧ PySem.W.selfFirst B.K (C.cI 0) = true ∧ PySem.W.findIn B.K (.ref (C.cI 0)) "__iadd__" = some (some (.ref a)) ∧ PySem.W.isFn B.K (.ref a) = true ∧ Binds B.K fd ps []
def FIOk (C : Cn) (B : Bs) (i : FI) (f : FS) : Prop := match i with
  | .hm m n fr => MethB C B m n fr f
  | .hf g => FldB C B g
  | .hi fr => IaddB C B fr f
  | .fn x n fr => FnB C B x n fr f
  | .hk h => HookOk C B h f
  | .exc x c n => ExcAt C (B.prog, B.w, B.K, B.mg, B.base, B.A) x c n
  | .hs h => HookOkS C B h f
  | .ht h => HookOkT C B h f
theorem FnB.at {C : Cn} {X : Cx} {x : Str} {n : Nat} {fr : Bool} {f : FS} (h : FnB C (Cx.bs X) x n fr f) : FnAt C X x n fr f := ⟨h.ex⟩
inductive FIs (C : Cn) (B : Bs) : List FI → List FS → Prop
  | nil : FIs C B [] []
  | cons {i : FI} {f : FS} {is : List FI} {fs : List FS} : FIOk C B i f → FIs C B is fs → FIs C B (i :: is) (f :: fs)
def fnL (fs : List FS) (k : Nat) : FS := match fs[k]? with | some f => f | none => fun _ _ => .stuck
theorem FIs.at {C : Cn} {B : Bs} : ∀ {is : List FI} {fs : List FS} {k : Nat} {i : FI}, FIs C B is fs → is[k]? = some i → FIOk C B i (fnL fs k)
  | _, _, 0, i, .cons h _, e => by cases e; exact h
  | _, _, k + 1, i, .cons _ t, e => by
    have := t.at (k := k) (by simpa using e)
    simpa [fnL] using this
/-- what is known of the exception classes by name -/
structure XcOk (C : Cn) (K : PySem.W.Frag) (mg : Str → Option Value) (xc : List (Str × Nat)) : Prop where
  nm : ∀ p ∈ xc, mg p.1 = some (.ref (C.cx p.2))
  xf : ∀ p ∈ xc, XfC K (C.cx p.2)
  no : ∀ p ∈ xc, PySem.W.findIn K (.ref (C.cx p.2)) (xfN p.2) = some none
  ec : ∀ p ∈ xc, ExcC K (C.cx p.2)
  xm : ∀ p ∈ xc, ∀ q ∈ xc, PySem.W.exmOne K (.ref (C.cx p.2)) (.ref (C.cx q.2)) = some (subX q.2 p.2)
  xk : ∀ p ∈ xc, ∀ q ∈ xc, q.2 = 0 → PySem.W.kitOne K (.ref (C.cx p.2)) (.ref (C.cx 0)) = some true
/-- of the defs' whole table -/
structure GoodB (C : Cn) (Γ : Gm) (fs : List FS) (B : Bs) : Prop where
  hK : B.K = C.K
  units : B.A.units + 65 < cLine
  fns : FIs C B Γ.fns fs
  blt : ∀ x ∈ bltNames, B.mg x = none
  tk : ∀ p ∈ Γ.tk, TupK B.K B.mg p.1 p.2
  prg : PrgOk C
  xc : XcOk C B.K B.mg Γ.xc
structure Good (C : Cn) (W : WX) (Γ : Gm) (fs : List FS) (X : Cx) : Prop where
  b : GoodB C Γ fs (Cx.bs X)
  calm : X.calm = true
  nodup : Γ.N.Nodup
  hN : X.N = Γ.N
  sc : X.env.scope = Γ.sc
  own : ∀ x ∈ Γ.own, X.fn x = true
  tk : Takes X W
/-! ### the lookers -/
def dbgOk (x : Str) : Bool := !(x == ("__debug__" : Str)) && !(x == ("__classdict__" : Str))
def visB (sc : Scope) (x : Str) : Bool := match sc.names.lookup x with | some .local | some .cell | some .free => true | _ => false
def nmB (Γ : Gm) (i : Nat) (x : Str) : Bool := decide (Γ.N[i]? = some x) && visB Γ.sc x && dbgOk x
def glB (sc : Scope) (x : Str) : Bool := decide (sc.names.lookup x = some .globalImplicit) && dbgOk x
def stB (Γ : Gm) (i : Nat) (x : Str) : Bool := decide (Γ.N[i]? = some x) && (decide (Γ.sc.names.lookup x = some .local) || (decide (Γ.sc.names.lookup x = some .cell) && decide (x ∈ Γ.own)))
def litOk : D → Const → Bool
  | .non, .none => true
  | .bl a, .bool b => a == b
  | .int i, .int j => decide (i = j)
  | .str x, .str y => decide (x = y) && sOk x
  | _, _ => false
def tgsB (Γ : Gm) : List Nat → List Expr → Bool
  | [], [] => true
  | i :: is, .Name x _ :: es => stB Γ i x && tgsB Γ is es
  | _, _ => false
def tgB (Γ : Gm) : Tg → Expr → Bool
  | .one i, .Name x _ => stB Γ i x
  | .tup is, .Tuple es _ _ => tgsB Γ is es
  | _, _ => false
def tgInB (vs : List Nat) : Tg → Bool
  | .one i => decide (i ∈ vs)
  | .tup is => is.all fun i => decide (i ∈ vs)
def isTupE : Expr → Bool | .Tuple _ _ _ => true | _ => false
def Gm.blk (Γ : Gm) (scope : Scope) (ow : List (Str × Nat)) : Gm := { Γ with sc := relS scope Γ.sc, own := (ow.map (·.1)).filter fun x => decide (scope.names.lookup x = some .cell) }
def owOf (Γ : Gm) (own : List Nat) : List (Str × Nat) := own.map fun i => ((Γ.N[i]?).getD "", i)
def opN (n : Bool) : CmpOp := if n then .IsNot else .Is
def isVarE : E → Bool | .var _ => true | _ => false
def noStars : List E → Bool
  | [] => true
  | .star _ :: _ => false
  | _ :: es => noStars es
mutual
def chkE (Γ : Gm) (t : Bool) (lv : Lv) (e : E) (ex : Expr) : Bool := match e with
  | .lit d => (match ex with | .Constant c _ _ => litOk d c | _ => false)
  | .glob _ _ => false
  | .star _ => false
  | .var i => lv.le .rep && (match ex with | .Name x _ => nmB Γ i x | _ => false)
  | .pk i => lv.le .pk && (match ex with | .Name x _ => nmB Γ i x | _ => false)
  | .tup es => (match ex with | .Tuple xs _ _ => chkEs Γ es xs | _ => false)
  | .lst es => (match ex with | .List xs _ => chkEs Γ es xs | _ => false)
  | .bin o a b => (match ex with | .BinOp x op y _ => decide (op = opOf o) && chkE Γ false .pk a x && chkE Γ false .pk b y | _ => false)
  | .neg a => (match ex with | .UnaryOp .USub x _ => chkE Γ false .pk a x | _ => false)
  | .cmp o a b => (match ex with | .Compare x [op] [y] _ => decide (op = cmpOf o) && notSet y && chkE Γ false .pk a x && chkE Γ false .pk b y | _ => false)
  | .isN n a => (match ex with | .Compare x [op] [.Constant .none _ _] _ => decide (op = opN n) && chkE Γ false .pk a x | _ => false)
  | .chain o p a b c => (match ex with | .Compare x [op, op'] [y, z] _ => decide (op = cmpOf o) && decide (op' = cmpOf p) && notSet z && chkE Γ false .pk a x && chkE Γ false .pk b y && chkE Γ false .pk c z | _ => false)
  | .and a b => (match ex with
    | .BoolOp .And [x, y] _ => chkE Γ t lv a x && chkE Γ t lv b y
    | .BoolOp .And (x :: y :: z :: r) p => chkE Γ t lv a x && chkE Γ t lv b (.BoolOp .And (y :: z :: r) p)
    | _ => false)
  | .or a b => (match ex with
    | .BoolOp .Or [x, y] _ => chkE Γ t lv a x && chkE Γ t lv b y
    | .BoolOp .Or (x :: y :: z :: r) p => chkE Γ t lv a x && chkE Γ t lv b (.BoolOp .Or (y :: z :: r) p)
    | _ => false)
  | .not a => (match ex with | .UnaryOp .Not x _ => chkE Γ t .pk a x | _ => false)
  | .ite c a b => !t && (match ex with | .IfExp z x y _ => chkE Γ true .pk c z && chkE Γ false lv a x && chkE Γ false lv b y | _ => false)
  | .idx a i => lv.le .rep && (match ex with | .Subscript x y _ => notSl y && chkE Γ false .pk a x && chkE Γ false .pk i y | _ => false)
  | .slice a lo hi => (match ex with | .Subscript x (.Slice l h none _) _ => chkE Γ false .pk a x && chkO Γ lo l && chkO Γ hi h | _ => false)
  | .fld f a => lv.le .rep && (match ex with | .Attribute x n _ => decide (n = fldName f) && notCall0 x && chkE Γ false .pk a x | _ => false)
  | .call k es => (match Γ.fns[k]? with
    | some (.fn x n fr) => lv.le (lvOf fr) && (match ex with
      | .Call (.Name y _) (z :: zs) [] _ => decide (y = x) && glB Γ.sc x && decide (es.length = n) && decide (zs.length + 1 = n) && noStars es && (z :: zs).all notStar && chkL Γ .rep es (z :: zs)
      | _ => false)
    | some (.hk h) => lv.le h.out && (!t || plainT ex) && (match h.mt Γ.sc ex with | some xs => chkL Γ h.lv es xs | none => false)
    | some (.hs h) => lv.le h.out && (!t || plainT ex) && es.all isVarE && (match h.mt Γ.sc ex with | some xs => chkL Γ h.lv es xs | none => false)
    | some (.ht h) => lv.le h.out && (match h.mt Γ.sc ex with | some xs => chkL Γ h.lv es xs | none => false)
    | some (.exc _ _ _) => false
    | some (.hm _ _ _) => false
    | some (.hf _) => false
    | some (.hi _) => false
    | none => false)
  | .blt b es => (match ex with | .Call (.Name y _) (z :: zs) [] _ => decide (y = bltName b) && glB Γ.sc y && (z :: zs).all notStar && chkL Γ .pk es (z :: zs) | _ => false)
  | .isi ts a => (match ts, ex with
    | [u], .Call (.Name y _) [x, .Name z _] [] _ => decide (y = ("isinstance" : Str)) && glB Γ.sc y && decide (z = (tyName u : Str)) && glB Γ.sc z && notStar x && chkE Γ false .pk a x
    | [u, v], .Call (.Name y _) [x, .Tuple [.Name z _, .Name w _] _ _] [] _ => decide (y = ("isinstance" : Str)) && glB Γ.sc y && decide (z = (tyName u : Str)) && glB Γ.sc z && decide (w = (tyName v : Str)) && glB Γ.sc w && notStar x && chkE Γ false .pk a x
    | _, _ => false)
  | .join a e => (match ex with | .Call (.Attribute x n ap) [y] [] cp => decide (n = ("join" : Str)) && notCall0 x && decide (ap.endLine = cp.line) && notStar y && chkE Γ false .pk a x && chkE Γ false .pk e y | _ => false)
  | .comp own tg src ifs elt => (match ex with
    | .ListComp el [⟨tx, it, cs, 0⟩] scope _ => blkC Γ.N Γ.sc scope (owOf Γ own) && tgInB own tg && tgB (Γ.blk scope (owOf Γ own)) tg tx && notSet it && chkSrc Γ false src tx it && chkIf (Γ.blk scope (owOf Γ own)) ifs cs && chkE (Γ.blk scope (owOf Γ own)) false .rep elt el
    | _ => false)
  | .dcomp own tg src key val => (match ex with
    | .DictComp kx vx [⟨tx, it, [], 0⟩] scope _ => blkC Γ.N Γ.sc scope (owOf Γ own) && tgInB own tg && tgB (Γ.blk scope (owOf Γ own)) tg tx && notSet it && chkSrc Γ false src tx it && chkE (Γ.blk scope (owOf Γ own)) false .rep key kx && chkE (Γ.blk scope (owOf Γ own)) false .rep val vx
    | _ => false)
  | .dic0 => (match ex with | .Dict [] [] _ => true | _ => false)
  | .cidx x ys a => (match ex with | .Call (.Attribute (.Name y _) n ap) [z] [] cp => decide ((y, ys) ∈ Γ.tk) && decide (n = ("index" : Str)) && glB Γ.sc y && decide (ap.endLine = cp.line) && notStar z && chkE Γ false .pk a z | _ => false)
  | .cell a => lv.le .rep && !t && chkE Γ false .fr a ex
  | .cget a i => lv.le .rep && (match ex with | .Subscript x y _ => notSl y && chkE Γ false .rep a x && chkE Γ false .pk i y | _ => false)
  | .clen a => (match ex with | .Call (.Name y _) [x] [] _ => decide (y = ("len" : Str)) && glB Γ.sc y && notStar x && chkE Γ false .rep a x | _ => false)
  | .ccat a b => (match ex with | .BinOp x .Add y _ => chkE Γ false .rep a x && chkE Γ false .pk b y | _ => false)
  | .callT _ k es => (match Γ.fns[k]? with
    | some (.fn x n fr) => (match ex with
      | .Call (.Name y _) (z :: zs) [] _ => decide (y = x) && glB Γ.sc x && decide (es.length = n) && decide (zs.length + 1 = n) && noStars es && (z :: zs).all notStar && chkL Γ .rep es (z :: zs)
      | _ => false)
    | _ => false)
  | .call0 k => (match Γ.fns[k]? with
    | some (.fn x n fr) => lv.le (lvOf fr) && decide (n = 0) && (match ex with
      | .Call (.Name y _) [] [] _ => decide (y = x) && glB Γ.sc x
      | _ => false)
    | _ => false)
  | .dm m k a es => (match Γ.fns[k]? with
    | some (.hm m' n fr) => lv.le (lvOf fr) && (match ex with
      | .Call (.Attribute x q ap) xs [] cp => decide (q = m) && decide (m' = m) && decide (es.length = n) && decide (xs.length = n) && decide (n ≤ 2) && notCall0 x && decide (ap.endLine = cp.line) && xs.all notStar && noStars es && chkE Γ false .rep a x && chkL Γ .rep es xs
      | _ => false)
    | _ => false)
  | .capp a e => (match ex with | .Call (.Attribute x n ap) [y] [] cp => decide (n = ("append" : Str)) && notCall0 x && decide (ap.endLine = cp.line) && notStar y && chkE Γ false .rep a x && chkE Γ false .rep e y | _ => false)
def chkEs (Γ : Gm) (es : List E) (xs : List Expr) : Bool := match es with
  | [] => (match xs with | [] => true | _ => false)
  | .star a :: es => (match xs with | .Starred x _ :: xs => chkE Γ false .pk a x && chkEs Γ es xs | _ => false)
  | e :: es => (match xs with | x :: xs => notStar x && chkE Γ false .rep e x && chkEs Γ es xs | _ => false)
def chkL (Γ : Gm) (lv : Lv) (es : List E) (xs : List Expr) : Bool := match es with
  | [] => (match xs with | [] => true | _ => false)
  | e :: es => (match xs with | x :: xs => chkE Γ false lv e x && chkL Γ lv es xs | _ => false)
def chkO (Γ : Gm) (e : Option E) (x : Option Expr) : Bool := match e with
  | none => (match x with | none => true | _ => false)
  | some e => (match x with | some x => chkE Γ false .pk e x | _ => false)
def chkIf (Γ : Gm) (e : Option E) (x : List Expr) : Bool := match e with
  | none => (match x with | [] => true | _ => false)
  | some e => (match x with | [x] => chkE Γ true .pk e x | _ => false)
def chkSrc (Γ : Gm) (fz : Bool) (s : Src) (tx it : Expr) : Bool := match s with
  | .val e => chkE Γ false (lvS fz) e it
  | .rng es => (match it with
    | .Call (.Name y _) [a] [] _ => decide (y = ("range" : Str)) && glB Γ.sc y && notStar a && chkL Γ .pk es [a]
    | .Call (.Name y _) [a, b] [] _ => decide (y = ("range" : Str)) && glB Γ.sc y && notStar a && notStar b && chkL Γ .pk es [a, b]
    | _ => false)
  | .enum e => (match it with | .Call (.Name y _) [a] [] _ => decide (y = ("enumerate" : Str)) && isTupE tx && glB Γ.sc y && notStar a && chkE Γ false (lvS fz) e a | _ => false)
  | .zip e f => (match it with | .Call (.Name y _) [a, b] [] _ => decide (y = ("zip" : Str)) && isTupE tx && glB Γ.sc y && notStar a && notStar b && chkE Γ false (lvS fz) e a && chkE Γ false (lvS fz) f b | _ => false)
end
end MP

/-! MP: what the lookers pass reads as the evaluator says. -/
namespace MP
open PySem PySem.Spec PyProof.Rows L2
section
variable {C : Cn} {W : WX} {X : Cx} {lv lw : Lv} {a b c : Expr} {pos : Pos} {Γ : Gm} {fs : List FS}
theorem vis_of {sc : Scope} {x : Str} (h : visB sc x = true) : Vis sc x := by
  unfold visB at h
  split at h
  · exact .inl (by assumption)
  · exact .inr (.inl (by assumption))
  · exact .inr (.inr (by assumption))
  · cases h
theorem dbg_of {x : Str} (h : dbgOk x = true) : (x == ("__debug__" : Str)) = false ∧ (x == ("__classdict__" : Str)) = false := by
  simpa [dbgOk] using h
theorem Good.name (g : Good C W Γ fs X) {i : Nat} {x : Str} (h : nmB Γ i x = true) : PE X (.Name x pos) (tVar i) := by
  simp only [nmB, Bool.and_eq_true, decide_eq_true_eq] at h
  exact pe_var (by rw [g.hN]; exact h.1.1) (by rw [g.sc]; exact vis_of h.1.2) (dbg_of h.2).1 (dbg_of h.2).2
theorem Good.gl (g : Good C W Γ fs X) {x : Str} (h : glB Γ.sc x = true) : Gl X x := by
  simp only [glB, Bool.and_eq_true, decide_eq_true_eq] at h
  show X.env.scope.names.lookup x = _
  rw [g.sc]
  exact h.1
theorem gl_dbg {sc : Scope} {x : Str} (h : glB sc x = true) : (x == ("__debug__" : Str)) = false := by
  simp only [glB, Bool.and_eq_true] at h
  exact (dbg_of h.2).1
theorem Good.K (g : Good C W Γ fs X) : X.K = C.K := g.b.hK
theorem Good.u (g : Good C W Γ fs X) : X.A.units + 65 < cLine := g.b.units
theorem Good.no (g : Good C W Γ fs X) {x : Str} (h : x ∈ bltNames) : X.mg x = none := g.b.blt x h
theorem Good.nN (g : Good C W Γ fs X) : X.N.Nodup := by rw [g.hN]; exact g.nodup
theorem Good.gname (g : Good C W Γ fs X) {i : Nat} {x : Str} (h : stB Γ i x = true) : PG X (.Name x pos) (gName i) := by
  simp only [stB, Bool.and_eq_true, Bool.or_eq_true, decide_eq_true_eq] at h
  refine pg_name g.nN (by rw [g.hN]; exact h.1) ?_ ?_
  · rw [g.sc]
    rcases h.2 with h | h
    · exact .inl h
    · exact .inr h.1
  · rw [g.sc]
    rcases h.2 with h | h
    · exact .inr h
    · exact .inl (g.own _ h.2)
theorem Good.gnames (g : Good C W Γ fs X) : ∀ {is : List Nat} {es : List Expr}, tgsB Γ is es = true → PGs X es (gsOf is) ∧ es.length = is.length
  | [], [], _ => ⟨pgs_nil, rfl⟩
  | i :: is, .Name x _ :: es, h => by
    simp only [tgsB, Bool.and_eq_true] at h
    obtain ⟨h1, h2⟩ := g.gnames h.2
    exact ⟨pgs_cons (g.gname h.1) h1, by simp [h2]⟩
  | [], _ :: _, h => by simp [tgsB] at h
  | _ :: _, [], h => by simp [tgsB] at h
  | i :: is, e :: es, h => by
    unfold tgsB at h
    split at h
    · rename_i q _; cases q
    · rename_i q1 q2; cases q1; cases q2
      simp only [Bool.and_eq_true] at h
      obtain ⟨h1, h2⟩ := g.gnames h.2
      exact ⟨pgs_cons (g.gname h.1) h1, by simp [h2]⟩
    · cases h
theorem ae_names {env : Env} : ∀ {is : List Nat} {es : List Expr}, tgsB Γ is es = true → (assignEach es env).length = is.length ∧ (assignEach es env).findIdx? (·.1) = none
  | [], [], _ => ⟨rfl, rfl⟩
  | [], _ :: _, h => by simp [tgsB] at h
  | _ :: _, [], h => by simp [tgsB] at h
  | i :: is, e :: es, h => by
    unfold tgsB at h
    split at h
    · rename_i q _; cases q
    · rename_i q1 q2; cases q1; cases q2
      simp only [Bool.and_eq_true] at h
      obtain ⟨h1, h2⟩ := ae_names (env := env) h.2
      rename_i x p
      have e : assignEach (.Name x p :: es) env = (false, assign (.Name x p) env) :: assignEach es env := rfl
      rw [e]
      refine ⟨by simp [h1], ?_⟩
      rw [List.findIdx?_cons]
      simp [h2]
    · cases h
theorem Good.tg (g : Good C W Γ fs X) {tg : Tg} {e : Expr} (h : tgB Γ tg e = true) : PG X e (gOf C.K tg) := by
  unfold tgB at h
  split at h
  · exact g.gname h
  · obtain ⟨h1, h2⟩ := g.gnames h
    obtain ⟨h3, h4⟩ := ae_names (env := X.env) h
    have := pg_tup (k := ‹_›) (pos := ‹_›) g.calm h1 h3 h4
    rw [g.K] at this
    exact this
  · cases h
theorem tgIn_of {vs : List Nat} {tg : Tg} (h : tgInB vs tg = true) : tgIn vs tg := by
  cases tg with
  | one i =>
    have h : decide (i ∈ vs) = true := h
    exact (of_decide_eq_true h : i ∈ vs)
  | tup is => simpa [tgInB, tgIn] using h
theorem ow_map (Γ : Gm) : ∀ own : List Nat, (owOf Γ own).map (·.2) = own
  | [] => rfl
  | i :: is => by
    have := ow_map Γ is
    simp only [owOf, List.map_cons, List.cons.injEq, true_and] at this ⊢
    exact this
theorem Good.blk (g : Good C W Γ fs X) {scope : Scope} {ow : List (Str × Nat)} {s : Shared} {H : Hp} {A : Addr} {cl : List (Str × Addr)} {fp : List Addr} : Good C W0 (Γ.blk scope ow) fs (X.blk s H scope (compEnvC scope cl A X.env) fp) where
  b := ⟨g.b.hK, g.b.units, g.b.fns, g.b.blt, g.b.tk, g.b.prg, g.b.xc⟩
  calm := g.calm
  nodup := g.nodup
  hN := g.hN
  sc := by show relS scope X.env.scope = _; rw [g.sc]; rfl
  own := fun x hx => by
    simp only [Gm.blk, List.mem_filter, decide_eq_true_eq] at hx
    show (scope.names.lookup x == some .cell) = true
    rw [hx.2]; rfl
  tk := takes0
/-! ### forms as argument lists -/
theorem PL.pa {es : List Expr} {ms : Env' → Sto → R (List D)} (x : PL C W X .rep es ms) : es.all notStar = true → PA X es (tA C W ms) := by
  induction x with
  | nil => exact fun _ => m_anil
  | cons p q ih => intro h; simp only [List.all_cons, Bool.and_eq_true] at h; exact m_acons (star_cons h.1) p (ih h.2)
theorem PL.pp {es : List Expr} {ms : Env' → Sto → R (List D)} (x : PL C W X .pk es ms) : es.all notStar = true → PA X es (tP C W ms) := by
  induction x with
  | nil => exact fun _ => m_pnil
  | cons p q ih => intro h; simp only [List.all_cons, Bool.and_eq_true] at h; exact m_pcons (star_cons h.1) p (ih h.2)
theorem R.bind_ok_inv {α β : Type} {r : R α} {f : α → Sto → R β} {b : β} {s' : Sto} (h : r.bind f = .ok b s') : ∃ a s, r = .ok a s ∧ f a s = .ok b s' := by
  cases r with
  | ok a s => exact ⟨a, s, rfl, h⟩
  | exc x s => cases h
  | stuck => cases h
theorem PL.len {es : List Expr} {ms : Env' → Sto → R (List D)} (x : PL C W X lv es ms) : ∀ ρ s ds s', ms ρ s = .ok ds s' → ds.length = es.length := by
  induction x with
  | nil => intro ρ s ds s' h; cases h; rfl
  | cons p q ih =>
    intro ρ s ds s' h
    obtain ⟨d, s1, h1, h2⟩ := R.bind_ok_inv h
    obtain ⟨ds1, s2, h3, h4⟩ := R.bind_ok_inv h2
    cases h4
    simp [ih _ _ _ _ h3]
theorem wkf {m : Env' → Sto → R D} (p : PE X a (tE C W .fr m)) : PE X a (tE C W lv m) := wk (by cases lv <;> rfl) p
abbrev Both (C : Cn) (W : WX) (X : Cx) (t : Bool) (lv : Lv) (ex : Expr) (m : Env' → Sto → R D) : Prop := (t = false → PE X ex (tE C W lv m)) ∧ (t = true → lv = .pk → PT X ex (tT C W (tst m)))
theorem Good.both (g : Good C W Γ fs X) {t : Bool} {m : Env' → Sto → R D} (hp : plainT a = true) (p : PE X a (tE C W lv m)) : Both C W X t lv a m :=
  ⟨fun _ => p, fun _ e => by subst e; exact m_test g.K p (it_of hp)⟩
theorem tst_and (ma mb : Env' → Sto → R D) (ρ : Env') (s : Sto) : tst (fun ρ s => (ma ρ s).bind fun x s => (R.of x.truth s).bind fun t s => if t then mb ρ s else .ok x s) ρ s = (tst ma ρ s).bind fun t s => if t then tst mb ρ s else .ok false s := by
  unfold tst
  dsimp only
  cases e : ma ρ s with
  | ok x s =>
    simp only [R.bind_ok]
    cases h : x.truth with
    | none => simp
    | some t => cases t <;> simp [h]
  | exc x s => rfl
  | stuck => rfl
theorem tst_or (ma mb : Env' → Sto → R D) (ρ : Env') (s : Sto) : tst (fun ρ s => (ma ρ s).bind fun x s => (R.of x.truth s).bind fun t s => if t then .ok x s else mb ρ s) ρ s = (tst ma ρ s).bind fun t s => if t then .ok true s else tst mb ρ s := by
  unfold tst
  dsimp only
  cases e : ma ρ s with
  | ok x s =>
    simp only [R.bind_ok]
    cases h : x.truth with
    | none => simp
    | some t => cases t <;> simp [h]
  | exc x s => rfl
  | stuck => rfl
theorem tst_not (ma : Env' → Sto → R D) (ρ : Env') (s : Sto) : tst (fun ρ s => (ma ρ s).bind fun x s => R.of (dNot x) s) ρ s = (tst ma ρ s).bind fun t s => .ok (!t) s := by
  unfold tst
  dsimp only
  cases e : ma ρ s with
  | ok x s =>
    simp only [R.bind_ok]
    cases h : x.truth with
    | none => simp [dNot, h]
    | some t => simp only [dNot, h, Option.map_some, R.of_some, R.bind_ok]; rfl
  | exc x s => rfl
  | stuck => rfl
theorem R.of_map {α β : Type} (o : Option α) (f : α → β) (s : Sto) : R.of (o.map f) s = (R.of o s).bind fun a s => .ok (f a) s := by cases o <;> rfl
theorem R.assoc {α β γ : Type} (r : R α) (f : α → Sto → R β) (g : β → Sto → R γ) : (r.bind f).bind g = r.bind fun a s => (f a s).bind g := by cases r <;> rfl
theorem tst_cmp (ma mb : Env' → Sto → R D) (f : D → D → Option Bool) (ρ : Env') (s : Sto) : tst (fun ρ s => (ma ρ s).bind fun x s => (mb ρ s).bind fun y s => R.of ((f x y).map .bl) s) ρ s = (ma ρ s).bind fun x s => (mb ρ s).bind fun y s => R.of (f x y) s := by
  unfold tst
  dsimp only
  cases ma ρ s with
  | ok x s =>
    simp only [R.bind_ok]
    cases mb ρ s with
    | ok y s =>
      simp only [R.bind_ok]
      cases f x y <;> rfl
    | exc y s => rfl
    | stuck => rfl
  | exc x s => rfl
  | stuck => rfl
theorem tst_chain (ma mb mc : Env' → Sto → R D) (f g : D → D → Option Bool) (ρ : Env') (s : Sto) : tst (fun ρ s => (ma ρ s).bind fun x s => (mb ρ s).bind fun y s => (R.of (f x y) s).bind fun t s => if t then (mc ρ s).bind fun z s => R.of ((g y z).map .bl) s else .ok (.bl false) s) ρ s = (ma ρ s).bind fun x s => (mb ρ s).bind fun y s => (R.of (f x y) s).bind fun t s => if t then (mc ρ s).bind fun z s => R.of (g y z) s else .ok false s := by
  unfold tst
  dsimp only
  cases ma ρ s with
  | ok x s =>
    simp only [R.bind_ok]
    cases mb ρ s with
    | ok y s =>
      simp only [R.bind_ok]
      cases f x y with
      | none => rfl
      | some t =>
        cases t with
        | false => rfl
        | true =>
          simp only [R.of_some, R.bind_ok, if_true]
          cases mc ρ s with
          | ok z s => simp only [R.bind_ok]; cases g y z <;> rfl
          | exc z s => rfl
          | stuck => rfl
    | exc y s => rfl
    | stuck => rfl
  | exc x s => rfl
  | stuck => rfl
theorem lastM {o p : CmpOp} {y z : Expr} (h : notSet z = true) : lastMarks [o, p] [y, z] = false := by
  show behindInMarks p z = false
  exact bm_of h
end
end MP

/-! MPJ: instances that are cells: fields, methods, lists in fields, +=. -/
namespace MP
open PySem PySem.Spec PyProof.Rows L2
section
variable {X : Cx} {CX : CXT} {k : Nat} {f C : Addr} {fd : FuncData} {ps : List Str} {sp : Sp} {E : L2.St → XK} {x m : Str} {p pos apos : Pos} {e o : Expr} {es : List Expr} {ta : TE} {t : TA}
def tMethS (C : Addr) (sp : Sp) (E : L2.St → XK) (ta : TE) (t : TA) : TE := fun σ H Q => ta σ H fun x H1 => ∃ a dx fs, x = .ref a ∧ H1 a = some (.ins C dx fs) ∧ fs.lookup m = none ∧ t σ H1 fun vs H2 => sp (.ref a :: vs) H2 Q (E σ)
theorem pe_methS {pl : Sem Bool} (he : PE X o ta) (c : Cls X.K C) (hm : Meth X.K C m f) (F : FnOk X.prog X.w X.K X.mg X.base CX k f fd ps sp) (hr : Room k X.A) (hb : Binds X.K fd ps []) (hx : ∀ σ, PassesAt CX X σ (E σ)) (ha : PA X (e :: es) t)
    (hst : starEach (e :: es) X.env = (false, eval e X.env) :: starEach es X.env) (hpl : (backTo pos (starEach es X.env)).any (·.1) = false)
    (ht : eval (.Call (.Attribute o m apos) (e :: es) [] pos) X.env = (do
      let ov ← eval o X.env
      standAt apos.atName
      let (f, first) ← holding [ov] (getMethod ov m pl)
      callWith pos f first (backTo pos (starEach (e :: es) X.env)) (backToKw pos (keywordEach [] X.env)))) :
    PE X (.Call (.Attribute o m apos) (e :: es) [] pos) (tMethS (m := m) C sp E ta t) := by
  refine ⟨fun pins s σ H Q I h => ?_⟩
  refine PySem.W.methodCall_KW (pl := pl) (thn (he.run pins s σ H _ I h) fun u s1 ⟨x, H1, I1, rx, a, dx, fs, ex, ea, l, q⟩ => ?_) ht
  subst ex
  obtain rfl : u = Value.ref a := rx
  refine getmeth_ok I1 ea c hm l ?_
  refine PySem.W.callWith_K (first := [.ref a]) (h₀ := X.base) I.ok.mod.kin hm.kp (thn (ha.run pos pins s1 σ H1 _ I1 q) fun us s2 ⟨vs, H2, I2, r, q2⟩ => ⟨I2.kIn, ?_⟩) hst hpl
  exact run_fnS (us := .ref a :: us) (vs := .ref a :: vs) F hr hb (hx σ) I2 (.cons rfl r) q2
theorem pe_methS0 {pl : Sem Bool} (he : PE X o ta) (c : Cls X.K C) (hm : Meth X.K C m f) (F : FnOk X.prog X.w X.K X.mg X.base CX k f fd ps sp) (hr : Room k X.A) (hb : Binds X.K fd ps []) (hx : ∀ σ, PassesAt CX X σ (E σ))
    (ht : eval (.Call (.Attribute o m apos) [] [] pos) X.env = (do
      let ov ← eval o X.env
      standAt apos.atName
      let (f, first) ← holding [ov] (getMethod ov m pl)
      callWith pos f first (backTo pos (starEach [] X.env)) (backToKw pos (keywordEach [] X.env)))) :
    PE X (.Call (.Attribute o m apos) [] [] pos) (tMethS (m := m) C sp E ta tNil) := by
  refine ⟨fun pins s σ H Q I h => ?_⟩
  refine PySem.W.methodCall_KW (pl := pl) (thn (he.run pins s σ H _ I h) fun u s1 ⟨x, H1, I1, rx, a, dx, fs, ex, ea, l, q⟩ => ?_) ht
  subst ex
  obtain rfl : u = Value.ref a := rx
  refine getmeth_ok I1 ea c hm l ?_
  exact PySem.W.callWith_K0 (first := [.ref a]) I1.kIn hm.kp (run_fnS (us := [.ref a]) (vs := [.ref a]) F hr hb (hx σ) I1 (.cons rfl .nil) q)
end
theorem meth_tree {o : Expr} {name : Str} {env : Env} {apos pos : Pos} {args : List Expr} (hb : attributeBase o name env (eval o env) = eval o env) (hform : methodCallForm args.length (backTo pos (starEach args env)) (backToKw pos (keywordEach [] env)) = true) (hline : (apos.endLine == pos.line) = true) :
    eval (.Call (.Attribute o name apos) args [] pos) env = (do
      let ov ← eval o env
      standAt apos.atName
      let (f, first) ← holding [ov] (getMethod ov name (do return (← importBound o env).getD true))
      callWith pos f first (backTo pos (starEach args env)) (backToKw pos (keywordEach [] env))) := by
  rw [arm_eval_Call, hb]
  have e : ∀ ov : Value, methodCall o name apos pos env ov (args.length + ([] : List Keyword).length) (backTo pos (starEach args env)) (backToKw pos (keywordEach [] env)) = (do
      let (f, first) ← holding [ov] (getMethod ov name (do return (← importBound o env).getD true))
      callWith pos f first (backTo pos (starEach args env)) (backToKw pos (keywordEach [] env))) := fun ov => by
    have hform' : methodCallForm (args.length + ([] : List Keyword).length) (backTo pos (starEach args env)) (backToKw pos (keywordEach [] env)) = true := hform
    have hpos : methodCallPos true o env apos pos = pure pos := by unfold methodCallPos; simp [hline]
    unfold methodCall
    rw [hform', hpos]
    unfold calleeOf
    simp only [if_true, pure_bind]
  simp only [e]
theorem form_le {pos : Pos} {env : Env} : ∀ {args : List Expr}, args.all notStar = true → args.length ≤ 2 → methodCallForm args.length (backTo pos (starEach args env)) (backToKw pos (keywordEach [] env)) = true
  | [], _, _ => rfl
  | [a], h, _ => by
    simp only [List.all_cons, Bool.and_eq_true] at h
    rw [star_cons h.1]
    rfl
  | [a, b], h, _ => by
    simp only [List.all_cons, Bool.and_eq_true] at h
    rw [star_cons h.1, star_cons h.2.1]
    rfl

section
variable {C : Cn} {W : WX} {X : Cx} {F : Hp} {L : List Addr} {H : Hp} {S : Sto}
abbrev FldsOk (C : Cn) (F : Hp) (L : List Addr) : List (Str × V) → List (Str × D) → Prop := Paired fun (p : Str × V) (q : Str × D) => p.1 = q.1 ∧ Rep C F L p.2 q.2
theorem insAt_ok {v : V} {x : D} {gs : List (Str × D)} (k : Ok C F L H S) (r : Rep C F L v x) (h : insAt S x = some gs) : ∃ n a dx fs, x = .ref n ∧ v = .ref a ∧ L[n]? = some a ∧ S[n]? = some (.ins 0 gs) ∧ H a = some (.ins (C.cI 0) dx fs) ∧ FldsOk C F L fs gs ∧ fs.length ≤ 100 := by
  unfold insAt at h
  split at h
  · rename_i n
    split at h
    · rename_i e
      cases h
      cases r with
      | ref hn =>
        obtain ⟨a, h1, h2⟩ := k.cells n _ e
        rw [hn] at h1
        cases h1
        cases h2 with
        | ins a b c => exact ⟨n, _, _, _, rfl, rfl, hn, e, a, b, c⟩
    · cases h
  · cases h
theorem flds_none {f : Str} : ∀ {fs : List (Str × V)} {gs : List (Str × D)}, FldsOk C F L fs gs → gs.lookup f = none → fs.lookup f = none
  | _, _, .nil, _ => rfl
  | (a, v) :: fs, (b, d) :: gs, .cons ⟨e, _⟩ t, h => by
    have e : a = b := e
    subst e
    rw [List.lookup_cons] at h ⊢
    cases q : f == a with
    | true => rw [q] at h; cases h
    | false => rw [q] at h; exact flds_none t h
theorem flds_some {f : Str} {d : D} : ∀ {fs : List (Str × V)} {gs : List (Str × D)}, FldsOk C F L fs gs → gs.lookup f = some d → ∃ v, fs.lookup f = some v ∧ Rep C F L v d
  | _, _, .nil, h => by cases h
  | (a, v) :: fs, (b, d') :: gs, .cons ⟨e, r⟩ t, h => by
    have e : a = b := e
    subst e
    rw [List.lookup_cons] at h ⊢
    cases q : f == a with
    | true => rw [q] at h; cases h; exact ⟨v, rfl, r⟩
    | false => rw [q] at h; exact flds_some t h
theorem flds_len {fs : List (Str × V)} {gs : List (Str × D)} (h : FldsOk C F L fs gs) : fs.length = gs.length := Paired.length h
theorem flds_put {f : Str} {v : V} {d : D} (r : Rep C F L v d) : ∀ {fs : List (Str × V)} {gs : List (Str × D)}, FldsOk C F L fs gs → FldsOk C F L (putF f v fs) (putG f d gs)
  | _, _, .nil => .cons ⟨rfl, r⟩ .nil
  | (a, w) :: fs, (b, e) :: gs, .cons ⟨q, p⟩ t => by
    have q : a = b := q
    subst q
    unfold putF putG
    by_cases h : a = f
    · rw [if_pos h, if_pos h]; exact .cons ⟨rfl, r⟩ t
    · rw [if_neg h, if_neg h]; exact .cons ⟨rfl, p⟩ (flds_put r t)
theorem Ok.iset {n : Nat} {p dx : Addr} {fs : List (Str × V)} {gs : List (Str × D)} (k : Ok C F L H S) (hn : L[n]? = some p) (z : fs.length ≤ 100) (r : FldsOk C F L fs gs) (hp : H p ≠ none) :
    Ok C F L (L2.upd H p (.ins (C.cI 0) dx fs)) (S.set n (.ins 0 gs)) ∧ Ext F L H F L (L2.upd H p (.ins (C.cI 0) dx fs)) := by
  have hL : p ∈ L := List.mem_of_getElem? hn
  refine ⟨⟨fun a o h => ?_, k.fl, k.nd, by rw [List.length_set]; exact k.len, fun m c hc => ?_⟩, Sub.refl _, List.prefix_refl _, fun a o h hl => ?_, fun a ha h => ?_, fun _ _ h => .inl h, fun _ h => .inl h⟩
  · rw [L2.upd_ne fun e => by subst e; rw [k.fl _ hL] at h; cases h]; exact k.sub a o h
  · rcases set_get hc with ⟨rfl, rfl, _⟩ | ⟨ne, hc⟩
    · exact ⟨p, hn, .ins L2.upd_same r z⟩
    · obtain ⟨b, h1, h2⟩ := k.cells m c hc
      have hb : b ≠ p := fun e => by
        subst e
        exact ne ((List.getElem?_inj (List.getElem?_eq_some_iff.mp hn).1 k.nd).mp (hn.trans h1.symm))
      exact ⟨b, h1, h2.up (Sub.refl _) (List.prefix_refl _) (L2.upd_ne hb)⟩
  · rw [L2.upd_ne fun e => by subst e; exact hl hL]; exact h
  · by_cases e : a = p
    · subst e; rw [L2.upd_same]; simp
    · rw [L2.upd_ne e]; exact h
end
section
variable {C : Cn} {W : WX} {X : Cx} {a e : Expr} {ma me : Env' → Sto → R D} {ms : Env' → Sto → R (List D)}
def dmF (m : Str) (f : FS) (ma : Env' → Sto → R D) (ms : Env' → Sto → R (List D)) (ρ : Env') (s : Sto) : R D := (ma ρ s).bind fun x s => match insAt s x with
  | some fs => if (fs.lookup m).isNone then (ms ρ s).bind fun ds s => f (x :: ds) s else .stuck
  | none => .stuck
theorem dm_core {m : Str} {n : Nat} {fr : Bool} {f : FS} {t : TA} (ht : t = tA C W ms ∨ (t = tNil ∧ ms = fun _ s => .ok [] s)) (hlen : ∀ ρ s ds s', ms ρ s = .ok ds s' → ds.length = n) (σ : L2.St) (H : Hp) (Q : VK) (q : tE C W (lvOf fr) (dmF m f ma ms) σ H Q) :
    tMethS (m := m) (C.cI 0) (spD C (n + 1) fr f) (WE W) (tE C W .rep ma) t σ H Q := by
  obtain ⟨F0, L, S, ρ, kk, en, q⟩ := q
  refine ⟨F0, L, S, ρ, kk, en, q.bind.imp fun F1 L1 H1 S1 x x1 k1 q1 v r1 => ?_⟩
  cases ei : insAt S1 x with
  | none => rw [ei] at q1; exact False.elim q1
  | some gs =>
    rw [ei] at q1
    dsimp only at q1
    cases el : gs.lookup m with
    | some d => rw [el] at q1; exact False.elim q1
    | none =>
      rw [el] at q1
      simp only [Option.isNone_none, if_true] at q1
      have r1 : Rep C F1 L1 v x := r1
      obtain ⟨nn, ad, dx, fs, rfl, rfl, hn, hS, hH, hf, hz⟩ := insAt_ok k1 r1 ei
      refine ⟨_, dx, fs, rfl, hH, flds_none hf el, ?_⟩
      have fin : ∀ F2 L2 H2 S2 ds, ds.length = n → MP.Ext F1 L1 H1 F2 L2 H2 → Ok C F2 L2 H2 S2 → Rn C W σ F2 L2 H2 (f (.ref nn :: ds) S2) (fun F' L' H' _ d => ∀ v, Vok C F' L' H H' (lvOf fr) v d → Q v H') → ∀ vs, RepAll C F2 L2 vs ds → spD C (n + 1) fr f (_ :: vs) H2 Q (WE W σ) := fun F2 L2 H2 S2 ds hl x2 k2 q2 vs r2 =>
        ⟨by rw [List.length_cons, r2.length, hl], F2, L2, S2, .ref nn :: ds, k2, .cons (r1.up x2.ff x2.ll) r2, (q2.wish fun c d H' w => w).imp fun F3 L3 H3 S3 d e3 k3 p v rv => p v (rv.from fun a ha => (x1.trans x2).none_of ha)⟩
      rcases ht with rfl | ⟨rfl, hms⟩
      · have q2 := q1.bind
        refine ⟨F1, L1, S1, ρ, k1, en.ext x1, ?_⟩
        cases es : ms ρ S1 with
        | exc y s => rw [es] at q2; exact q2
        | stuck => rw [es] at q2; exact q2
        | ok ds S2 =>
          rw [es] at q2
          exact fun F2 L2 H2 x2 k2 vs r2 => fin F2 L2 H2 S2 ds (hlen _ _ _ _ es) x2 k2 (q2 _ _ _ x2 k2) vs r2
      · subst hms
        have h0 := hlen [] [] [] [] rfl
        exact fin F1 L1 H1 S1 [] h0 (MP.Ext.refl _ _ _) k1 q1 [] .nil
theorem m_dm {m : Str} {n : Nat} {fr : Bool} {f : FS} {ap cp : Pos} {args : List Expr} (tk : Takes X W) (hf : MethB C (Cx.bs X) m n fr f) (ha : PE X a (tE C W .rep ma)) (hb : notCall0 a = true) (h3 : args.all notStar = true) (h4 : args.length ≤ 2) (h5 : (ap.endLine == cp.line) = true)
    (hp : PL C W X .rep args ms) (hlen : ∀ ρ s ds s', ms ρ s = .ok ds s' → ds.length = n) : PE X (.Call (.Attribute a m ap) args [] cp) (tE C W (lvOf fr) (dmF m f ma ms)) := by
  obtain ⟨k, ad, fd, ps, F0, hr, hc, hm, hbn⟩ := hf.ex
  have tree := meth_tree (o := a) (name := m) (env := X.env) (apos := ap) (pos := cp) (args := args) (ab_of hb) (form_le h3 h4) h5
  match args, h3, hp, tree with
  | [], h3, hp, tree =>
    cases hp
    exact PE.imp (pe_methS0 ha hc hm F0 hr hbn (fun σ => passAt tk σ) tree) (dm_core (.inr ⟨rfl, rfl⟩) hlen)
  | z :: zs, h3, hp, tree =>
    have hpa := hp.pa h3
    simp only [List.all_cons, Bool.and_eq_true] at h3
    exact PE.imp (pe_methS ha hc hm F0 hr hbn (fun σ => passAt tk σ) hpa (star_cons h3.1) (star_none h3.2) tree) (dm_core (.inl rfl) hlen)
theorem m_capp {ap cp : Pos} (ha : PE X a (tE C W .rep ma)) (he : PE X e (tE C W .rep me)) (hb : notCall0 a = true) (hl : (ap.endLine == cp.line) = true) (hs : starEach [e] X.env = [(false, eval e X.env)]) :
    PE X (.Call (.Attribute a "append" ap) [e] [] cp) (tE C W .fr fun ρ s => (ma ρ s).bind fun x s => match cellAt s x with
      | some _ => (me ρ s).bind fun d s => match cApp s x d with
        | some s' => .ok .non s'
        | none => .stuck
      | none => .stuck) := by
  refine PE.imp (pe_bm PySem.F.plainAttrs_list PySem.F.slot_list_append PySem.F.type_list_append mt_append ha (pa_cons he pa_nil hs) (ab_of hb) (by rw [hs]; rfl) hl (by rw [hs]; rfl) rfl) fun σ H Q ⟨F, L, S, ρ, k, en, q⟩ => ⟨F, L, S, ρ, k, en, q.bind.imp fun F1 L1 H1 S1 x e1 k1 q1 v r1 => ?_⟩
  have r1 : Rep C F1 L1 v x := r1
  cases ec : cellAt S1 x with
  | none => rw [ec] at q1; exact False.elim q1
  | some xs =>
    rw [ec] at q1
    dsimp only at q1
    obtain ⟨n, p, vs, rfl, rfl, hn, hS, hp, z, rr⟩ := cellAt_ok k1 r1 ec
    refine ⟨.inl ⟨rfl, vs, SqL.of hp⟩, F1, L1, S1, ρ, k1, en.ext e1, q1.bind.imp fun F2 L2 H2 S2 d e2 k2 q2 u ru => ?_⟩
    cases eo : cApp S2 (.ref n) d with
    | none => rw [eo] at q2; exact False.elim q2
    | some S3 =>
      rw [eo] at q2
      dsimp only at q2
      unfold cApp at eo
      dsimp only at eo
      obtain ⟨ys, h1, h2⟩ := Option.bind_eq_some_iff.mp eo
      split at h2
      · rename_i hlt
        cases h2
        obtain ⟨n', p', ws, e, ev, hn', hS', hp', z', rr'⟩ := cellAt_ok k2 (r1.up e2.ff e2.ll) h1
        cases e
        cases ev
        have ru : Rep C F2 L2 u d := ru
        have lw := rr'.length
        obtain ⟨a1, a2⟩ := k2.cset hn' (vs := ws ++ [u]) (xs := ys ++ [d]) (by rw [List.length_append, lw, sizeBIG]; exact hlt) (rr'.snoc ru) (by rw [hp']; simp)
        exact ⟨_, ws, u, rfl, rfl, hp', by rw [lw, sizeBIG]; exact hlt, q2 _ _ _ a2 a1 _ (Vok.re rfl .non)⟩
      · cases h2
end
section
variable {C : Cn} {F0 : Hp} {L0 : List Addr} {H0 : Hp} {W : WX} {X : Cx} {lv : Lv} {a e : Expr} {ma me : Env' → Sto → R D}
theorem s_fset {f : Str} {p p' : Pos} (hf : FldB C (Cx.bs X) f) (ha : PE X a (tE C W .rep ma)) (he : PE X e (tE C W .rep me)) (hs : swapsWith e (some (.Attribute a f p')) p.line X.env = pure false) :
    PS X (.Assign [.Attribute a f p'] e p) (tS C F0 L0 H0 W lv fun ρ s => RS.of (me ρ s) ρ fun d s => RS.of (ma ρ s) ρ fun x s => RS.of (R.of (cFset s x f d) s) ρ fun s' _ => .nx ρ s') := by
  refine PS.imp (ps_fld ha he hs) fun D' σ H ⟨F, L, S, ρ, x, k, en, ow, q⟩ => ?_
  refine ⟨F, L, S, ρ, k, en, (Sn.of x en ow (Grow.refl _ _) q).imp fun F1 L1 H1 S1 d e1 k1 ⟨x1, en1, g1, q1⟩ w rw' => ?_⟩
  refine ⟨F1, L1, S1, ρ, k1, en1, (Sn.of x1 en1 ow g1 q1).imp fun F2 L2 H2 S2 y e2 k2 ⟨x2, en2, g2, q2⟩ u ru => ?_⟩
  obtain ⟨S3, ho, q3⟩ := q2.got
  unfold cFset at ho
  split at ho
  · rename_i n _
    obtain ⟨gs, h1, h2⟩ := Option.bind_eq_some_iff.mp ho
    split at h2
    · rename_i hz
      cases h2
      have ru : Rep C F2 L2 u (.ref n) := ru
      have rw2 : Rep C F1 L1 w d := rw'
      obtain ⟨n', ad, dx, fs, e, rfl, hn, hS, hH, hfl, hz2⟩ := insAt_ok k2 ru h1
      cases e
      have hp := flds_put (f := f) (rw2.up e2.ff e2.ll) hfl
      obtain ⟨a1, a2⟩ := k2.iset hn (dx := dx) (by rw [flds_len hp]; exact hz) hp (by rw [hH]; simp)
      exact ⟨_, _, dx, fs, rfl, hH, hf.cls, hf.no, Nat.lt_of_le_of_lt hz2 (by decide), q3 _ _ _ _ (x2.trans a2) g2 a1 (en2.ext a2) ow⟩
    · cases h2
  · cases ho
/-- x += e, x an instance with its own __iadd__ -/
def tIaug (i : Nat) (te : TE) (sp : Sp) (Ci : Addr) (E : L2.St → XK) : TS := fun D σ H => ∃ x, σ[i]? = some (some x) ∧ te σ H fun y H1 => ∃ a dx fs, x = .ref a ∧ H1 a = some (.ins Ci dx fs) ∧ sp [.ref a, y] H1 (fun z H2 => D.nx (σ.set i (some z)) H2) (E σ)
theorem ps_iadd {CX : CXT} {k : Nat} {f Ci : Addr} {fd : FuncData} {ps : List Str} {sp : Sp} {E : L2.St → XK} {i : Nat} {x : Str} {te : TE} {pos pos' : Pos} (hN : X.N.Nodup) (hi : X.N[i]? = some x) (hx : Loc X.env.scope x) (hf : X.fn x = true ∨ X.env.scope.names.lookup x = some .local) (he : PE X e te)
    (F : FnOk X.prog X.w X.K X.mg X.base CX k f fd ps sp) (hr : Room k X.A) (hb : Binds X.K fd ps []) (hp : ∀ σ, PassesAt CX X σ (E σ)) (hc : PySem.W.selfFirst X.K Ci = true) (hs : PySem.W.findIn X.K (.ref Ci) "__iadd__" = some (some (.ref f))) (hfn : PySem.W.isFn X.K (.ref f) = true) :
    PS X (.AugAssign (.Name x pos') .Add e pos) (tIaug i te sp Ci E) := by
  refine ⟨fun pins s σ H D I h => ?_⟩
  obtain ⟨v, e1, h⟩ := h
  obtain ⟨m, hn, hl⟩ := I.loc
  have vis : Vis X.env.scope x := by rcases hx with k | k; exact .inl k; exact .inr (.inl k)
  obtain ⟨u, r, l⟩ := hl i x v hi e1 vis
  refine wpAny_AugAssign_Name ?_
  have go : wpAny (model X.prog X.w) X.A (eval e X.env) (fun w s₂ => wpAny (model X.prog X.w) X.A (inplaceOp .Add u w) (fun r s₃ => wpAny (model X.prog X.w) X.A (storeName X.env x r) (fun _ => SP X pins D .next) X.xe s₃) X.xe s₂) X.xe s := by
    refine thn (he.run pins s σ H _ I h) fun w s1 ⟨y, H1, I1, r1, a, dx, fs, ex, ea, q1⟩ => ?_
    subst ex
    obtain rfl : u = Value.ref a := r
    obtain ⟨mA, J, _⟩ := ins_get I1.hok ea
    obtain ⟨od, J, _⟩ := J.look
    obtain ⟨m', hF⟩ := I1.fr
    refine PySem.W.ksp_inplace (op := .Add) hF I1.ok.mod.kin J hc hs hfn ?_
    have c := run_fnS (us := [.ref a, w]) (vs := [.ref a, y]) F hr hb (hp σ) I1 (.cons rfl (.cons r1 .nil)) q1
    refine wpAny_mono c (fun z s2 ⟨zv, H2, I2, r2, q2⟩ => ?_) fun _ _ q => q
    have fin : wpAny (model X.prog X.w) X.A (storeName X.env x z) (fun _ => SP X pins D .next) X.xe s2 := store_ok I2 hN hi hx r2 (fun s3 I3 => ⟨_, H2, I3, q2⟩) hf
    cases z <;> first | exact fin | (cases zv <;> simp [L2.RelV] at r2)
  rcases l with ⟨hk, hm⟩ | ⟨hk, c, hc, hcell⟩
  · exact wpAny_loadName_local I.ok.kind hk hn hm go
  · rcases hk with hk | hk
    · exact wpAny_loadName_cell I.ok.kind hk hc hcell go
    · rcases hx with k | k
      · have : X.env.scope.names.lookup x = some .free := hk
        rw [k] at this; cases this
      · have : X.env.scope.names.lookup x = some .free := hk
        rw [k] at this; cases this
theorem s_iadd {f : FS} {fr : Bool} {i : Nat} {x : Str} {pos pos' : Pos} (tk : Takes X W) (hN : X.N.Nodup) (hi : X.N[i]? = some x) (hx : Loc X.env.scope x) (hfn : X.fn x = true ∨ X.env.scope.names.lookup x = some .local) (hf : IaddB C (Cx.bs X) fr f) (he : PE X e (tE C W .rep me)) :
    PS X (.AugAssign (.Name x pos') .Add e pos) (tS C F0 L0 H0 W lv fun ρ s => RS.of (R.of (immAt ρ i) s) ρ fun x s => RS.of (me ρ s) ρ fun d s => match insAt s x with
      | some _ => RS.of (f [x, d] s) ρ fun r s => .nx (setI ρ i r) s
      | none => .stuck) := by
  obtain ⟨k, ad, fd, ps, F0', hr, hc, hs, hfx, hb⟩ := hf.ex
  refine PS.imp (ps_iadd hN hi hx hfn he F0' hr hb (fun σ => passAt tk σ) hc hs hfx) fun D' σ H ⟨F, L, S, ρ, x, kk, en, ow, q⟩ => ?_
  obtain ⟨y, hy, q⟩ := q.got
  obtain ⟨v, hs, rv⟩ := en.imm (immAt_some hy)
  refine ⟨v, hs, F, L, S, ρ, kk, en, (Sn.of x en ow (Grow.refl _ _) q).imp fun F1 L1 H1 S1 d e1 k1 ⟨x1, en1, g1, q1⟩ w rw' => ?_⟩
  cases ei : insAt S1 y with
  | none => rw [ei] at q1; exact False.elim q1
  | some gs =>
    rw [ei] at q1
    dsimp only at q1
    have rv1 := rv.up e1.ff e1.ll
    obtain ⟨n, a, dx, fs, rfl, rfl, hn, hS, hH, hfl, hz⟩ := insAt_ok k1 rv1 ei
    have rw2 : Rep C F1 L1 w d := rw'
    refine ⟨a, dx, fs, rfl, hH, rfl, F1, L1, S1, [.ref n, d], k1, .cons rv1 (.cons rw2 .nil), ((Sn.of x1 en1 ow g1 q1).wish fun c d H' w => w).imp fun F2 L2 H2 S2 r e2 k2 ⟨x2, en2, g2, q2⟩ u ru => ?_⟩
    have ru' : ∃ F3, Ok C F3 L2 H2 S2 ∧ MP.Ext F1 L1 H1 F3 L2 H2 ∧ Rep C F3 L2 u r := by
      cases fr with
      | true => exact Vok.weak (show Vok C F2 L2 H1 H2 .fr u r from ru) k2 e2
      | false => exact ⟨F2, k2, e2, ru⟩
    obtain ⟨F3, k3, e3, r3⟩ := ru'
    exact q2 _ _ _ _ (x1.trans e3) (g1.trans e3.grow) k3 ((en1.ext e3).setI r3) ow.setI
end
end MP

/-! MP: what the lookers pass reads as the evaluator says. -/
namespace MP
open PySem PySem.Spec PyProof.Rows L2
theorem lit_ok {C : Cn} {W : WX} {X : Cx} {d : D} {c : Const} {k : Nat} {p : Pos} (h : litOk d c = true) : PE X (.Constant c k p) (tE C W .fr fun _ s => .ok d s) := by
  unfold litOk at h
  split at h
  · exact m_const pe_non (fun _ _ => .non) rfl
  · have h := eq_of_beq h
    subst h
    exact m_const pe_bl (fun _ _ => .bl _) rfl
  · have h := of_decide_eq_true h
    subst h
    exact m_const pe_int (fun _ _ => .int _) rfl
  · simp only [Bool.and_eq_true, decide_eq_true_eq] at h
    obtain ⟨rfl, h⟩ := h
    exact m_const pe_str (fun _ _ => .str _ h) rfl
  · cases h
theorem ty_boot (t : Ty) : bootBuiltins (tyName t : Str) = some (.type (tyName t)) := by cases t <;> decide +kernel
theorem ty_in (t : Ty) : (tyName t : Str) ∈ bltNames := by cases t <;> decide +kernel
theorem ty_nn (t : Ty) : (tyName t : Str) ≠ "__name__" := by cases t <;> decide +kernel
theorem Good.ty {C : Cn} {W : WX} {X : Cx} {Γ : Gm} {fs : List FS} (g : Good C W Γ fs X) {t : Ty} {p : Pos} (h : glB Γ.sc (tyName t : Str) = true) : PE X (.Name (tyName t : Str) p) (tC (.ty (tyName t))) :=
  pe_tyN (g.gl h) (g.no (ty_in t)) (ty_boot t) (ty_nn t) (gl_dbg h)
theorem blt_in (b : Blt) : bltName b ∈ bltNames := by cases b <;> decide +kernel
theorem evEs_len {fn : Nat → FS} : ∀ {es : List E}, noStars es = true → ∀ ρ s ds s', evEs fn ρ es s = .ok ds s' → ds.length = es.length
  | [], _, ρ, s, ds, s', h => by cases h; rfl
  | e :: es, hn, ρ, s, ds, s', h => by
    have hs : noStars es = true ∧ evEs fn ρ (e :: es) s = (evE fn ρ e s).bind fun d s => (evEs fn ρ es s).bind fun ds s => .ok (d :: ds) s := by
      cases e <;> first | exact ⟨hn, rfl⟩ | cases hn
    rw [hs.2] at h
    obtain ⟨d, s1, h1, h2⟩ := R.bind_ok_inv h
    obtain ⟨ds1, s2, h3, h4⟩ := R.bind_ok_inv h2
    cases h4
    simp [evEs_len hs.1 _ _ _ _ h3]
section
variable {C : Cn} {W : WX} {X : Cx} {lv lw : Lv} {a b c : Expr} {pos : Pos} {ma mb mc : Env' → Sto → R D} {Γ : Gm} {fs : List FS}
theorem m_tisN {j : Nat} {p2 : Pos} (ha : PE X a (tE C W .pk ma)) : PT X (.Compare a [.Is] [.Constant .none j p2] pos) (tT C W fun ρ s => (ma ρ s).bind fun x s => .ok (isNb false x) s) := by
  refine PT.imp (pt_cmp (pc_isN ha) (bm_of rfl)) fun σ H Q ⟨F, L, S, ρ, k, en, q⟩ => ⟨F, L, S, ρ, k, en, q.bind.imp fun F1 L1 H1 S1 x e1 k1 q1 v1 r1 => ?_⟩
  show ∃ b, V.bl (decide (v1 = .non)) = .bl b ∧ Q b H1
  rw [Pk.nonI v1 x r1]
  exact ⟨_, rfl, q1.now k1⟩
theorem m_tnotN {j : Nat} {p2 : Pos} (ha : PE X a (tE C W .pk ma)) : PT X (.Compare a [.IsNot] [.Constant .none j p2] pos) (tT C W fun ρ s => (ma ρ s).bind fun x s => .ok (isNb true x) s) := by
  refine PT.imp (pt_cmp (pc_notN ha) (bm_of rfl)) fun σ H Q ⟨F, L, S, ρ, k, en, q⟩ => ⟨F, L, S, ρ, k, en, q.bind.imp fun F1 L1 H1 S1 x e1 k1 q1 v1 r1 => ?_⟩
  show ∃ b, V.bl (!decide (v1 = .non)) = .bl b ∧ Q b H1
  rw [Pk.nonI v1 x r1, isNb_not]
  exact ⟨_, rfl, q1.now k1⟩
theorem tst_is (ma : Env' → Sto → R D) (n : Bool) (ρ : Env') (s : Sto) : tst (fun ρ s => (ma ρ s).bind fun x s => .ok (.bl (isNb n x)) s) ρ s = (ma ρ s).bind fun x s => .ok (isNb n x) s := by
  unfold tst
  dsimp only
  cases ma ρ s <;> rfl
theorem pts_imp {e : List Expr} {t t' : TT} (h : PTs X e t) (f : ∀ σ H Q, t' σ H Q → t σ H Q) : PTs X e t' := ⟨fun pins s σ H Q I q => h.run pins s σ H Q I (f σ H Q q)⟩
theorem esc_ok {e : E} {es : List E} {xs : List Expr} (hc : chkEs Γ (e :: es) xs = (match xs with | x :: xs => notStar x && chkE Γ false .rep e x && chkEs Γ es xs | _ => false)) (hv : ∀ ρ : Env', (fun s => evEs (fnL fs) ρ (e :: es) s) = fun s => (evE (fnL fs) ρ e s).bind fun d s => (evEs (fnL fs) ρ es s).bind fun ds s => .ok (d :: ds) s)
    (h1 : ∀ x, chkE Γ false .rep e x = true → PE X x (tE C W .rep fun ρ s => evE (fnL fs) ρ e s)) (h2 : ∀ ys, chkEs Γ es ys = true → PA X ys (tA C W fun ρ s => evEs (fnL fs) ρ es s)) (h : chkEs Γ (e :: es) xs = true) : PA X xs (tA C W fun ρ s => evEs (fnL fs) ρ (e :: es) s) := by
  rw [hc] at h
  split at h
  · simp only [Bool.and_eq_true] at h
    have := m_acons (star_cons h.1.1) (h1 _ h.1.2) (h2 _ h.2)
    rw [show (fun ρ s => evEs (fnL fs) ρ (e :: es) s) = fun ρ s => (evE (fnL fs) ρ e s).bind fun d s => (evEs (fnL fs) ρ es s).bind fun ds s => .ok (d :: ds) s from funext hv]
    exact this
  · cases h
end
theorem evEs_var {fn : Nat → FS} {ρ : Env'} : ∀ {es : List E} {s : Sto} {x : Exn} {s' : Sto}, es.all isVarE = true → evEs fn ρ es s ≠ .exc x s'
  | [], s, x, s', _ => by simp [evEs]
  | e :: es, s, x, s', h => by
    simp only [List.all_cons, Bool.and_eq_true] at h
    obtain ⟨i, rfl⟩ : ∃ i, e = .var i := by
      have h1 := h.1
      unfold isVarE at h1
      split at h1
      · exact ⟨_, rfl⟩
      · cases h1
    have ih := fun s => evEs_var (fn := fn) (ρ := ρ) (es := es) (s := s) (x := x) (s' := s') h.2
    simp only [evEs, evE]
    cases immAt ρ i with
    | none => simp
    | some d =>
      simp only [R.of_some, R.bind_ok]
      intro q
      have := ih s
      cases e2 : evEs fn ρ es s with
      | ok a b => rw [e2] at q; cases q
      | exc y t => rw [e2] at q this; exact this (by simpa using q)
      | stuck => rw [e2] at q; cases q
mutual
theorem chkE_ok {C : Cn} {fs : List FS} : ∀ (e : E) {W : WX} {X : Cx} {Γ : Gm} {t : Bool} {lv : Lv} {ex : Expr}, Good C W Γ fs X → chkE Γ t lv e ex = true → Both C W X t lv ex fun ρ s => evE (fnL fs) ρ e s
  | .lit d, W, X, Γ, t, lv, ex, g, h => by
    unfold chkE at h
    split at h
    · exact g.both rfl (wkf (lit_ok h))
    · cases h
  | .glob _ _, W, X, Γ, t, lv, ex, g, h => by unfold chkE at h; cases h
  | .star _, W, X, Γ, t, lv, ex, g, h => by unfold chkE at h; cases h
  | .var i, W, X, Γ, t, lv, ex, g, h => by
    unfold chkE at h
    simp only [Bool.and_eq_true] at h
    obtain ⟨h1, h⟩ := h
    split at h
    · exact g.both rfl (wk h1 (m_var (g.name h)))
    · cases h
  | .pk i, W, X, Γ, t, lv, ex, g, h => by
    unfold chkE at h
    simp only [Bool.and_eq_true] at h
    obtain ⟨h1, h⟩ := h
    split at h
    · exact g.both rfl (wk h1 (m_pk (g.name h)))
    · cases h
  | .tup es, W, X, Γ, t, lv, ex, g, h => by
    unfold chkE at h
    split at h
    · exact g.both rfl (wkf (m_tup (chkEs_ok es g h)))
    · cases h
  | .lst es, W, X, Γ, t, lv, ex, g, h => by
    unfold chkE at h
    split at h
    · exact g.both rfl (wkf (m_lst (chkEs_ok es g h)))
    · cases h
  | .bin o a b, W, X, Γ, t, lv, ex, g, h => by
    unfold chkE at h
    split at h
    · simp only [Bool.and_eq_true, decide_eq_true_eq] at h
      obtain ⟨⟨rfl, h1⟩, h2⟩ := h
      obtain ⟨r, ho, hf⟩ := bin_ok (X := X) (C := C) o g.K
      exact g.both rfl (wkf (m_op ho hf ((chkE_ok a g h1).1 rfl) ((chkE_ok b g h2).1 rfl)))
    · cases h
  | .neg a, W, X, Γ, t, lv, ex, g, h => by
    unfold chkE at h
    split at h
    · exact g.both rfl (wkf (m_neg ((chkE_ok a g h).1 rfl)))
    · cases h
  | .cmp o a b, W, X, Γ, t, lv, ex, g, h => by
    unfold chkE at h
    split at h
    · simp only [Bool.and_eq_true, decide_eq_true_eq] at h
      obtain ⟨⟨⟨rfl, h0⟩, h1⟩, h2⟩ := h
      obtain ⟨r, ho, hf⟩ := cmp_ok (X := X) (C := C) o g.K g.u
      refine ⟨fun _ => wkf (m_cmpR ho (bm_of h0) hf ((chkE_ok a g h1).1 rfl) ((chkE_ok b g h2).1 rfl)), fun _ e => ?_⟩
      exact pt_cong (m_tcmp ho (bm_of h0) hf ((chkE_ok a g h1).1 rfl) ((chkE_ok b g h2).1 rfl)) fun ρ s => tst_cmp _ _ _ ρ s
    · cases h
  | .isN n a, W, X, Γ, t, lv, ex, g, h => by
    unfold chkE at h
    split at h
    · simp only [Bool.and_eq_true, decide_eq_true_eq] at h
      obtain ⟨rfl, h1⟩ := h
      have ha := (chkE_ok a g h1).1 rfl
      cases n with
      | false => exact ⟨fun _ => wkf (m_isN ha), fun _ _ => pt_cong (m_tisN ha) fun ρ s => tst_is _ _ ρ s⟩
      | true => exact ⟨fun _ => wkf (m_notN ha), fun _ _ => pt_cong (m_tnotN ha) fun ρ s => tst_is _ _ ρ s⟩
    · cases h
  | .chain o p a b c, W, X, Γ, t, lv, ex, g, h => by
    unfold chkE at h
    split at h
    · simp only [Bool.and_eq_true, decide_eq_true_eq] at h
      obtain ⟨⟨⟨⟨⟨rfl, rfl⟩, h0⟩, h1⟩, h2⟩, h3⟩ := h
      obtain ⟨r, ho, hf⟩ := cmp_ok (X := X) (C := C) o g.K g.u
      obtain ⟨r', ho', hf'⟩ := cmp_ok (X := X) (C := C) p g.K g.u
      refine ⟨fun _ => wkf (m_chain ho hf ho' hf' (lastM h0) ((chkE_ok a g h1).1 rfl) ((chkE_ok b g h2).1 rfl) ((chkE_ok c g h3).1 rfl)), fun _ e => ?_⟩
      exact pt_cong (m_tchain ho hf ho' hf' (lastM h0) ((chkE_ok a g h1).1 rfl) ((chkE_ok b g h2).1 rfl) ((chkE_ok c g h3).1 rfl)) fun ρ s => tst_chain _ _ _ _ _ ρ s
    · cases h
  | .and a b, W, X, Γ, t, lv, ex, g, h => by
    unfold chkE at h
    split at h
    · simp only [Bool.and_eq_true] at h
      have ha := chkE_ok a g h.1
      have hb := chkE_ok b g h.2
      refine ⟨fun e => m_and g.K (ha.1 e) (pe_bool1 (hb.1 e)), fun e e2 => ?_⟩
      exact pt_cong (m_tand (ha.2 e e2) (PW.pt (pw_and1 (hb.2 e e2)))) fun ρ s => tst_and _ _ ρ s
    · simp only [Bool.and_eq_true] at h
      have ha := chkE_ok a g h.1
      have hb := chkE_ok b g h.2
      refine ⟨fun e => m_and g.K (ha.1 e) (hb.1 e), fun e e2 => ?_⟩
      exact pt_cong (m_tand (ha.2 e e2) (hb.2 e e2)) fun ρ s => tst_and _ _ ρ s
    · cases h
  | .or a b, W, X, Γ, t, lv, ex, g, h => by
    unfold chkE at h
    split at h
    · simp only [Bool.and_eq_true] at h
      have ha := chkE_ok a g h.1
      have hb := chkE_ok b g h.2
      refine ⟨fun e => m_or g.K (ha.1 e) (pe_bool1 (hb.1 e)), fun e e2 => ?_⟩
      exact pt_cong (m_tor (ha.2 e e2) (PW.pt (pw_or1 (hb.2 e e2)))) fun ρ s => tst_or _ _ ρ s
    · simp only [Bool.and_eq_true] at h
      have ha := chkE_ok a g h.1
      have hb := chkE_ok b g h.2
      refine ⟨fun e => m_or g.K (ha.1 e) (hb.1 e), fun e e2 => ?_⟩
      exact pt_cong (m_tor (ha.2 e e2) (hb.2 e e2)) fun ρ s => tst_or _ _ ρ s
    · cases h
  | .not a, W, X, Γ, t, lv, ex, g, h => by
    unfold chkE at h
    split at h
    · have ha := chkE_ok a g h
      refine ⟨fun e => wkf (m_not g.K (ha.1 e)), fun e e2 => ?_⟩
      exact pt_cong (m_tnot (ha.2 e rfl)) fun ρ s => tst_not _ ρ s
    · cases h
  | .ite c a b, W, X, Γ, t, lv, ex, g, h => by
    unfold chkE at h
    simp only [Bool.and_eq_true, Bool.not_eq_true'] at h
    obtain ⟨ht, h⟩ := h
    split at h
    · simp only [Bool.and_eq_true] at h
      refine ⟨fun _ => pe_cong (m_ite ((chkE_ok c g h.1.1).2 rfl rfl) ((chkE_ok a g h.1.2).1 rfl) ((chkE_ok b g h.2).1 rfl)) fun ρ s => ?_, fun e => by rw [ht] at e; cases e⟩
      show _ = ((evE (fnL fs) ρ c s).bind fun x s => R.of x.truth s).bind _
      rw [R.assoc]
      rfl
    · cases h
  | .idx a i, W, X, Γ, t, lv, ex, g, h => by
    unfold chkE at h
    simp only [Bool.and_eq_true] at h
    obtain ⟨hl, h⟩ := h
    split at h
    · simp only [Bool.and_eq_true] at h
      have := g.u
      exact g.both rfl (wk hl (m_didx g.K (by have := g.u; omega) (plainIx h.1.1) (noSl h.1.1) ((chkE_ok a g h.1.2).1 rfl) ((chkE_ok i g h.2).1 rfl)))
    · cases h
  | .slice a lo hi, W, X, Γ, t, lv, ex, g, h => by
    unfold chkE at h
    split at h
    · simp only [Bool.and_eq_true] at h
      exact g.both rfl (wkf (m_slice g.K ((chkE_ok a g h.1.1).1 rfl) (chkO_ok lo g h.1.2) (chkO_ok hi g h.2)))
    · cases h
  | .fld f a, W, X, Γ, t, lv, ex, g, h => by
    unfold chkE at h
    simp only [Bool.and_eq_true] at h
    obtain ⟨hl, h⟩ := h
    split at h
    · simp only [Bool.and_eq_true, decide_eq_true_eq] at h
      obtain ⟨⟨rfl, h1⟩, h2⟩ := h
      exact g.both rfl (wk hl (m_fld g.K g.b.prg (ab_of h1) ((chkE_ok a g h2).1 rfl)))
    · cases h
  | .call k es, W, X, Γ, t, lv, ex, g, h => by
    unfold chkE at h
    split at h
    · rename_i x n fr hk
      simp only [Bool.and_eq_true] at h
      obtain ⟨hl, h⟩ := h
      split at h
      · simp only [Bool.and_eq_true, decide_eq_true_eq] at h
        obtain ⟨⟨⟨⟨⟨⟨rfl, h1⟩, h2⟩, h3⟩, h4⟩, h5⟩, h6⟩ := h
        have hf : FnAt C X _ n fr (fnL fs k) := FnB.at (g.b.fns.at hk)
        have hp := (chkL_ok es g h6).pa h5
        simp only [List.all_cons, Bool.and_eq_true] at h5
        exact g.both rfl (wk hl (m_call g.tk hf (g.gl h1) (gl_dbg h1) (by simpa using h3) (star_cons h5.1) (star_none h5.2) (fun ρ s ds s' e => by rw [evEs_len h4 _ _ _ _ e]; exact h2) hp))
      · cases h
    · rename_i hh hk
      simp only [Bool.and_eq_true, Bool.or_eq_true, Bool.not_eq_true'] at h
      obtain ⟨⟨hl, ht⟩, h⟩ := h
      split at h
      · rename_i xs hm
        have hf : HookOk C (Cx.bs X) hh (fnL fs k) := g.b.fns.at hk
        have p := wk hl (hf.ex X W ex xs _ rfl g.K g.calm g.u g.tk (by rw [g.sc]; exact hm) (chkL_ok es g h))
        refine ⟨fun _ => p, fun e e2 => ?_⟩
        rcases ht with ht | ht
        · rw [ht] at e; cases e
        · exact (g.both (t := true) ht p).2 rfl e2
      · cases h
    · rename_i hh hk
      simp only [Bool.and_eq_true, Bool.or_eq_true, Bool.not_eq_true'] at h
      obtain ⟨⟨⟨hl, ht⟩, hv⟩, h⟩ := h
      split at h
      · rename_i xs hm
        have hf : HookOkS C (Cx.bs X) hh (fnL fs k) := g.b.fns.at hk
        have p := wk hl (hf.ex X W ex xs _ rfl g.K g.calm g.u g.tk (by rw [g.sc]; exact hm) (chkL_ok es g h) (fun ρ s x s' => evEs_var hv))
        refine ⟨fun _ => p, fun e e2 => ?_⟩
        rcases ht with ht | ht
        · rw [ht] at e; cases e
        · exact (g.both (t := true) ht p).2 rfl e2
      · cases h
    · rename_i hh hk
      simp only [Bool.and_eq_true] at h
      obtain ⟨hl, h⟩ := h
      split at h
      · rename_i xs hm
        have hf : HookOkT C (Cx.bs X) hh (fnL fs k) := g.b.fns.at hk
        have p := hf.ex X W ex xs _ rfl g.K g.calm g.u g.tk (by rw [g.sc]; exact hm) (chkL_ok es g h)
        exact ⟨fun _ => wk hl p.1, fun e e2 => p.2⟩
      · cases h
    · cases h
    · cases h
    · cases h
    · cases h
    · cases h
  | .dm m k a es, W, X, Γ, t, lv, ex, g, h => by
    unfold chkE at h
    split at h
    · rename_i m' n fr hk
      simp only [Bool.and_eq_true] at h
      obtain ⟨hl, h⟩ := h
      split at h
      · simp only [Bool.and_eq_true, decide_eq_true_eq] at h
        obtain ⟨⟨⟨⟨⟨⟨⟨⟨⟨⟨rfl, rfl⟩, h1⟩, h2⟩, h3⟩, h4⟩, h5⟩, h6⟩, h7⟩, h8⟩, h9⟩ := h
        have hf : MethB C (Cx.bs X) _ n fr (fnL fs k) := g.b.fns.at hk
        exact g.both rfl (wk hl (m_dm g.tk hf ((chkE_ok a g h8).1 rfl) h4 h6 (by rw [h2]; exact h3) (by simpa using h5) (chkL_ok es g h9) fun ρ s ds s' e => by rw [evEs_len h7 _ _ _ _ e]; exact h1))
      · cases h
    · cases h
  | .capp a e, W, X, Γ, t, lv, ex, g, h => by
    unfold chkE at h
    split at h
    · simp only [Bool.and_eq_true, decide_eq_true_eq] at h
      obtain ⟨⟨⟨⟨⟨rfl, h1⟩, h2⟩, h3⟩, h4⟩, h5⟩ := h
      exact g.both rfl (wkf (m_capp ((chkE_ok a g h4).1 rfl) ((chkE_ok e g h5).1 rfl) h1 (by simpa using h2) (star_one h3)))
    · cases h
  | .callT i k es, W, X, Γ, t, lv, ex, g, h => by
    unfold chkE at h
    split at h
    · rename_i x n fr hk
      split at h
      · simp only [Bool.and_eq_true, decide_eq_true_eq] at h
        obtain ⟨⟨⟨⟨⟨⟨rfl, h1⟩, h2⟩, h3⟩, h4⟩, h5⟩, h6⟩ := h
        have hf : FnAt C X _ n fr (fnL fs k) := FnB.at (g.b.fns.at hk)
        have hp := (chkL_ok es g h6).pa h5
        simp only [List.all_cons, Bool.and_eq_true] at h5
        exact g.both rfl (wkf (m_callT (m_call g.tk hf (g.gl h1) (gl_dbg h1) (by simpa using h3) (star_cons h5.1) (star_none h5.2) (fun ρ s ds s' e => by rw [evEs_len h4 _ _ _ _ e]; exact h2) hp)))
      · cases h
    · cases h
  | .call0 k, W, X, Γ, t, lv, ex, g, h => by
    unfold chkE at h
    split at h
    · rename_i x n fr hk
      simp only [Bool.and_eq_true, decide_eq_true_eq] at h
      obtain ⟨⟨hl, rfl⟩, h⟩ := h
      split at h
      · simp only [Bool.and_eq_true, decide_eq_true_eq] at h
        obtain ⟨rfl, h1⟩ := h
        have hf : FnAt C X _ 0 fr (fnL fs k) := FnB.at (g.b.fns.at hk)
        exact g.both rfl (wk hl (m_call0 hf (g.gl h1) (gl_dbg h1)))
      · cases h
    · cases h
  | .blt b es, W, X, Γ, t, lv, ex, g, h => by
    unfold chkE at h
    split at h
    · simp only [Bool.and_eq_true, decide_eq_true_eq] at h
      obtain ⟨⟨⟨rfl, h1⟩, h2⟩, h3⟩ := h
      have hp := (chkL_ok es g h3).pp h2
      simp only [List.all_cons, Bool.and_eq_true] at h2
      exact g.both rfl (wkf (m_blt b g.K g.calm (g.gl h1) (g.no (blt_in b)) (star_cons h2.1) (star_none h2.2) hp))
    · cases h
  | .isi ts a, W, X, Γ, t, lv, ex, g, h => by
    unfold chkE at h
    split at h
    · simp only [Bool.and_eq_true, decide_eq_true_eq] at h
      obtain ⟨⟨⟨⟨⟨rfl, h1⟩, rfl⟩, h2⟩, h3⟩, h4⟩ := h
      exact g.both rfl (wkf (m_isi1 (p2 := default) g.K (g.gl h1) (g.no (by decide +kernel)) (g.ty h2) (star_two h3 rfl) (star_one rfl) ((chkE_ok a g h4).1 rfl)))
    · simp only [Bool.and_eq_true, decide_eq_true_eq] at h
      obtain ⟨⟨⟨⟨⟨⟨⟨rfl, h1⟩, rfl⟩, h2⟩, rfl⟩, h3⟩, h4⟩, h5⟩ := h
      exact g.both rfl (wkf (m_isi2 g.K (g.gl h1) (g.no (by decide +kernel)) (g.ty h2) (g.ty h3) (star_two h4 rfl) (star_cons rfl) (star_one rfl) ((chkE_ok a g h5).1 rfl)))
    · cases h
  | .join a e, W, X, Γ, t, lv, ex, g, h => by
    unfold chkE at h
    split at h
    · simp only [Bool.and_eq_true, decide_eq_true_eq] at h
      obtain ⟨⟨⟨⟨⟨rfl, h1⟩, h2⟩, h3⟩, h4⟩, h5⟩ := h
      exact g.both rfl (wkf (m_join (p := default) g.K (ab_of h1) (by simpa using h2) (star_one h3) ((chkE_ok a g h4).1 rfl) ((chkE_ok e g h5).1 rfl)))
    · cases h
  | .comp own tg src ifs elt, W, X, Γ, t, lv, ex, g, h => by
    unfold chkE at h
    split at h
    · simp only [Bool.and_eq_true] at h
      obtain ⟨⟨⟨⟨⟨⟨h1, h2⟩, h3⟩, h4⟩, h5⟩, h6⟩, h7⟩ := h
      have hb := blkOk_by h1
      have := m_comp (W := W) (pos := ‹_›) (C := C) g.K g.calm g.nN (chkSrc_ok src g h5) (by rw [g.hN, g.sc]; exact hb) (by rw [ow_map]; exact tgIn_of h2) (fun s H A cl fp => g.blk.tg h3) (fun s H A cl fp => chkIf_ok ifs g.blk h6) (fun s H A cl fp => (chkE_ok elt g.blk h7).1 rfl) (fs_of h4)
      rw [ow_map] at this
      exact g.both rfl (wkf this)
    · cases h
  | .dcomp own tg src key val, W, X, Γ, t, lv, ex, g, h => by
    unfold chkE at h
    split at h
    · simp only [Bool.and_eq_true] at h
      obtain ⟨⟨⟨⟨⟨⟨h1, h2⟩, h3⟩, h4⟩, h5⟩, h6⟩, h7⟩ := h
      have hb := blkOk_by h1
      have := m_dcomp (W := W) (pos := ‹_›) (C := C) g.K g.calm g.nN (chkSrc_ok src g h5) (by rw [g.hN, g.sc]; exact hb) (by rw [ow_map]; exact tgIn_of h2) (fun s H A cl fp => g.blk.tg h3) (fun s H A cl fp => (chkE_ok key g.blk h6).1 rfl) (fun s H A cl fp => (chkE_ok val g.blk h7).1 rfl) (fs_of h4)
      rw [ow_map] at this
      exact g.both rfl (wkf this)
    · cases h
  | .dic0, W, X, Γ, t, lv, ex, g, h => by
    unfold chkE at h
    split at h
    · exact g.both rfl (wkf m_dic0)
    · cases h
  | .cidx x ys a, W, X, Γ, t, lv, ex, g, h => by
    unfold chkE at h
    split at h
    · simp only [Bool.and_eq_true, decide_eq_true_eq] at h
      obtain ⟨⟨⟨⟨⟨h1, rfl⟩, h2⟩, h3⟩, h4⟩, h5⟩ := h
      exact g.both rfl (wkf (m_cidx g.K (g.b.tk _ h1) (g.gl h2) (gl_dbg h2) (by simpa using h3) (star_one h4) (ab_of rfl) ((chkE_ok a g h5).1 rfl)))
    · cases h
  | .cell a, W, X, Γ, t, lv, ex, g, h => by
    unfold chkE at h
    simp only [Bool.and_eq_true, Bool.not_eq_true'] at h
    obtain ⟨⟨h1, h2⟩, h3⟩ := h
    exact ⟨fun _ => wk h1 (m_cell ((chkE_ok a g h3).1 rfl)), fun e => by rw [h2] at e; cases e⟩
  | .cget a i, W, X, Γ, t, lv, ex, g, h => by
    unfold chkE at h
    simp only [Bool.and_eq_true] at h
    obtain ⟨hl, h⟩ := h
    split at h
    · simp only [Bool.and_eq_true] at h
      exact g.both rfl (wk hl (m_cget g.K (plainIx h.1.1) ((chkE_ok a g h.1.2).1 rfl) ((chkE_ok i g h.2).1 rfl)))
    · cases h
  | .clen a, W, X, Γ, t, lv, ex, g, h => by
    unfold chkE at h
    split at h
    · simp only [Bool.and_eq_true, decide_eq_true_eq] at h
      obtain ⟨⟨⟨rfl, h1⟩, h2⟩, h3⟩ := h
      exact g.both rfl (wkf (m_clen g.K (g.gl h1) (g.no (by decide +kernel)) (star_one h2) ((chkE_ok a g h3).1 rfl)))
    · cases h
  | .ccat a b, W, X, Γ, t, lv, ex, g, h => by
    unfold chkE at h
    split at h
    · simp only [Bool.and_eq_true] at h
      exact g.both rfl (wkf (m_ccat ((chkE_ok a g h.1).1 rfl) ((chkE_ok b g h.2).1 rfl)))
    · cases h
theorem chkEs_ok {C : Cn} {fs : List FS} : ∀ (es : List E) {W : WX} {X : Cx} {Γ : Gm} {xs : List Expr}, Good C W Γ fs X → chkEs Γ es xs = true → PA X xs (tA C W fun ρ s => evEs (fnL fs) ρ es s)
  | [], W, X, Γ, xs, g, h => by
    unfold chkEs at h
    split at h
    · exact m_anil
    · cases h
  | .star a :: es, W, X, Γ, xs, g, h => by
    unfold chkEs at h
    split at h
    · simp only [Bool.and_eq_true] at h
      exact m_astar g.K ((chkE_ok a g h.1).1 rfl) (chkEs_ok es g h.2)
    · cases h
  | .lit d :: es, W, X, Γ, xs, g, h => esc_ok rfl (fun _ => rfl) (fun xx hx => (chkE_ok (.lit d) g hx).1 rfl) (fun ys hy => chkEs_ok es g hy) h
  | .var i :: es, W, X, Γ, xs, g, h => esc_ok rfl (fun _ => rfl) (fun xx hx => (chkE_ok (.var i) g hx).1 rfl) (fun ys hy => chkEs_ok es g hy) h
  | .pk i :: es, W, X, Γ, xs, g, h => esc_ok rfl (fun _ => rfl) (fun xx hx => (chkE_ok (.pk i) g hx).1 rfl) (fun ys hy => chkEs_ok es g hy) h
  | .glob x d :: es, W, X, Γ, xs, g, h => esc_ok rfl (fun _ => rfl) (fun xx hx => (chkE_ok (.glob x d) g hx).1 rfl) (fun ys hy => chkEs_ok es g hy) h
  | .tup l :: es, W, X, Γ, xs, g, h => esc_ok rfl (fun _ => rfl) (fun xx hx => (chkE_ok (.tup l) g hx).1 rfl) (fun ys hy => chkEs_ok es g hy) h
  | .lst l :: es, W, X, Γ, xs, g, h => esc_ok rfl (fun _ => rfl) (fun xx hx => (chkE_ok (.lst l) g hx).1 rfl) (fun ys hy => chkEs_ok es g hy) h
  | .bin o a b :: es, W, X, Γ, xs, g, h => esc_ok rfl (fun _ => rfl) (fun xx hx => (chkE_ok (.bin o a b) g hx).1 rfl) (fun ys hy => chkEs_ok es g hy) h
  | .neg a :: es, W, X, Γ, xs, g, h => esc_ok rfl (fun _ => rfl) (fun xx hx => (chkE_ok (.neg a) g hx).1 rfl) (fun ys hy => chkEs_ok es g hy) h
  | .cmp o a b :: es, W, X, Γ, xs, g, h => esc_ok rfl (fun _ => rfl) (fun xx hx => (chkE_ok (.cmp o a b) g hx).1 rfl) (fun ys hy => chkEs_ok es g hy) h
  | .isN n a :: es, W, X, Γ, xs, g, h => esc_ok rfl (fun _ => rfl) (fun xx hx => (chkE_ok (.isN n a) g hx).1 rfl) (fun ys hy => chkEs_ok es g hy) h
  | .chain o p a b c :: es, W, X, Γ, xs, g, h => esc_ok rfl (fun _ => rfl) (fun xx hx => (chkE_ok (.chain o p a b c) g hx).1 rfl) (fun ys hy => chkEs_ok es g hy) h
  | .and a b :: es, W, X, Γ, xs, g, h => esc_ok rfl (fun _ => rfl) (fun xx hx => (chkE_ok (.and a b) g hx).1 rfl) (fun ys hy => chkEs_ok es g hy) h
  | .or a b :: es, W, X, Γ, xs, g, h => esc_ok rfl (fun _ => rfl) (fun xx hx => (chkE_ok (.or a b) g hx).1 rfl) (fun ys hy => chkEs_ok es g hy) h
  | .not a :: es, W, X, Γ, xs, g, h => esc_ok rfl (fun _ => rfl) (fun xx hx => (chkE_ok (.not a) g hx).1 rfl) (fun ys hy => chkEs_ok es g hy) h
  | .ite c a b :: es, W, X, Γ, xs, g, h => esc_ok rfl (fun _ => rfl) (fun xx hx => (chkE_ok (.ite c a b) g hx).1 rfl) (fun ys hy => chkEs_ok es g hy) h
  | .idx a i :: es, W, X, Γ, xs, g, h => esc_ok rfl (fun _ => rfl) (fun xx hx => (chkE_ok (.idx a i) g hx).1 rfl) (fun ys hy => chkEs_ok es g hy) h
  | .slice a lo hi :: es, W, X, Γ, xs, g, h => esc_ok rfl (fun _ => rfl) (fun xx hx => (chkE_ok (.slice a lo hi) g hx).1 rfl) (fun ys hy => chkEs_ok es g hy) h
  | .fld f a :: es, W, X, Γ, xs, g, h => esc_ok rfl (fun _ => rfl) (fun xx hx => (chkE_ok (.fld f a) g hx).1 rfl) (fun ys hy => chkEs_ok es g hy) h
  | .call f l :: es, W, X, Γ, xs, g, h => esc_ok rfl (fun _ => rfl) (fun xx hx => (chkE_ok (.call f l) g hx).1 rfl) (fun ys hy => chkEs_ok es g hy) h
  | .blt b l :: es, W, X, Γ, xs, g, h => esc_ok rfl (fun _ => rfl) (fun xx hx => (chkE_ok (.blt b l) g hx).1 rfl) (fun ys hy => chkEs_ok es g hy) h
  | .isi ts a :: es, W, X, Γ, xs, g, h => esc_ok rfl (fun _ => rfl) (fun xx hx => (chkE_ok (.isi ts a) g hx).1 rfl) (fun ys hy => chkEs_ok es g hy) h
  | .join a e :: es, W, X, Γ, xs, g, h => esc_ok rfl (fun _ => rfl) (fun xx hx => (chkE_ok (.join a e) g hx).1 rfl) (fun ys hy => chkEs_ok es g hy) h
  | .comp own tg src ifs elt :: es, W, X, Γ, xs, g, h => esc_ok rfl (fun _ => rfl) (fun xx hx => (chkE_ok (.comp own tg src ifs elt) g hx).1 rfl) (fun ys hy => chkEs_ok es g hy) h
  | .dcomp own tg src key val :: es, W, X, Γ, xs, g, h => esc_ok rfl (fun _ => rfl) (fun xx hx => (chkE_ok (.dcomp own tg src key val) g hx).1 rfl) (fun ys hy => chkEs_ok es g hy) h
  | .dic0 :: es, W, X, Γ, xs, g, h => esc_ok rfl (fun _ => rfl) (fun xx hx => (chkE_ok (.dic0) g hx).1 rfl) (fun ys hy => chkEs_ok es g hy) h
  | .cidx x ys a :: es, W, X, Γ, xs, g, h => esc_ok rfl (fun _ => rfl) (fun xx hx => (chkE_ok (.cidx x ys a) g hx).1 rfl) (fun ys hy => chkEs_ok es g hy) h
  | .cget a i :: es, W, X, Γ, xs, g, h => esc_ok rfl (fun _ => rfl) (fun xx hx => (chkE_ok (.cget a i) g hx).1 rfl) (fun ys hy => chkEs_ok es g hy) h
  | .clen a :: es, W, X, Γ, xs, g, h => esc_ok rfl (fun _ => rfl) (fun xx hx => (chkE_ok (.clen a) g hx).1 rfl) (fun ys hy => chkEs_ok es g hy) h
  | .ccat a b :: es, W, X, Γ, xs, g, h => esc_ok rfl (fun _ => rfl) (fun xx hx => (chkE_ok (.ccat a b) g hx).1 rfl) (fun ys hy => chkEs_ok es g hy) h
  | .cell a :: es, W, X, Γ, xs, g, h => esc_ok rfl (fun _ => rfl) (fun xx hx => (chkE_ok (.cell a) g hx).1 rfl) (fun ys hy => chkEs_ok es g hy) h
  | .callT i k l :: es, W, X, Γ, xs, g, h => esc_ok rfl (fun _ => rfl) (fun xx hx => (chkE_ok (.callT i k l) g hx).1 rfl) (fun ys hy => chkEs_ok es g hy) h
  | .call0 k :: es, W, X, Γ, xs, g, h => esc_ok rfl (fun _ => rfl) (fun xx hx => (chkE_ok (.call0 k) g hx).1 rfl) (fun ys hy => chkEs_ok es g hy) h
  | .dm m k b l :: es, W, X, Γ, xs, g, h => esc_ok rfl (fun _ => rfl) (fun xx hx => (chkE_ok (.dm m k b l) g hx).1 rfl) (fun ys hy => chkEs_ok es g hy) h
  | .capp b c :: es, W, X, Γ, xs, g, h => esc_ok rfl (fun _ => rfl) (fun xx hx => (chkE_ok (.capp b c) g hx).1 rfl) (fun ys hy => chkEs_ok es g hy) h
theorem chkL_ok {C : Cn} {fs : List FS} : ∀ (es : List E) {W : WX} {X : Cx} {Γ : Gm} {lv : Lv} {xs : List Expr}, Good C W Γ fs X → chkL Γ lv es xs = true → PL C W X lv xs fun ρ s => evEs (fnL fs) ρ es s
  | [], W, X, Γ, lv, xs, g, h => by
    unfold chkL at h
    split at h
    · exact .nil
    · cases h
  | e :: es, W, X, Γ, lv, xs, g, h => by
    unfold chkL at h
    split at h
    · simp only [Bool.and_eq_true] at h
      have ha := (chkE_ok e g h.1).1 rfl
      have hs := chkL_ok es g h.2
      have : (fun ρ s => evEs (fnL fs) ρ (e :: es) s) = fun ρ s => (evE (fnL fs) ρ e s).bind fun d s => (evEs (fnL fs) ρ es s).bind fun ds s => .ok (d :: ds) s := by
        funext ρ s
        cases e <;> first | rfl | (have := h.1; unfold chkE at this; cases this)
      rw [this]
      exact .cons ha hs
    · cases h
theorem chkO_ok {C : Cn} {fs : List FS} : ∀ (e : Option E) {W : WX} {X : Cx} {Γ : Gm} {x : Option Expr}, Good C W Γ fs X → chkO Γ e x = true → PO X x (tO C W fun ρ s => evO (fnL fs) ρ e s)
  | none, W, X, Γ, x, g, h => by
    unfold chkO at h
    split at h
    · exact m_onone
    · cases h
  | some e, W, X, Γ, x, g, h => by
    unfold chkO at h
    split at h
    · exact m_osome ((chkE_ok e g h).1 rfl)
    · cases h
theorem chkIf_ok {C : Cn} {fs : List FS} : ∀ (e : Option E) {W : WX} {X : Cx} {Γ : Gm} {x : List Expr}, Good C W Γ fs X → chkIf Γ e x = true → PTs X x (tT C W fun ρ s => evIf (fnL fs) ρ e s)
  | none, W, X, Γ, x, g, h => by
    unfold chkIf at h
    split at h
    · exact pts_imp pts_nil fun σ H Q ⟨F, L, S, ρ, k, en, q⟩ => q.now k
    · cases h
  | some e, W, X, Γ, x, g, h => by
    unfold chkIf at h
    split at h
    · exact pts_one ((chkE_ok e g h).2 rfl rfl)
    · cases h
theorem chkSrc_ok {C : Cn} {fs : List FS} : ∀ (e : Src) {W : WX} {X : Cx} {Γ : Gm} {fz : Bool} {tx it : Expr}, Good C W Γ fs X → chkSrc Γ fz e tx it = true → PI X tx it (tI C W fz fun ρ s => evSrc (fnL fs) ρ e s)
  | .val e, W, X, Γ, fz, tx, it, g, h => by
    unfold chkSrc at h
    exact m_sval g.K ((chkE_ok e g h).1 rfl)
  | .rng es, W, X, Γ, fz, tx, it, g, h => by
    unfold chkSrc at h
    split at h
    · simp only [Bool.and_eq_true, decide_eq_true_eq] at h
      obtain ⟨⟨⟨rfl, h1⟩, h2⟩, h3⟩ := h
      have hl := chkL_ok es g h3
      exact m_srng1 (g.gl h1) (g.no (by decide +kernel)) (star_one h2) (hl.pp (by simp [h2])) (fun ρ s ds s' e => hl.len _ _ _ _ e)
    · simp only [Bool.and_eq_true, decide_eq_true_eq] at h
      obtain ⟨⟨⟨⟨rfl, h1⟩, h2⟩, h4⟩, h3⟩ := h
      have hl := chkL_ok es g h3
      exact m_srng2 (g.gl h1) (g.no (by decide +kernel)) (star_two h2 h4) (star_one h4) (hl.pp (by simp [h2, h4])) (fun ρ s ds s' e => hl.len _ _ _ _ e)
    · cases h
  | .enum e, W, X, Γ, fz, tx, it, g, h => by
    unfold chkSrc at h
    split at h
    · simp only [Bool.and_eq_true, decide_eq_true_eq] at h
      obtain ⟨⟨⟨⟨rfl, h0⟩, h1⟩, h2⟩, h3⟩ := h
      unfold isTupE at h0
      split at h0
      · exact m_senum g.K (g.gl h1) (g.no (by decide +kernel)) (star_one h2) ((chkE_ok e g h3).1 rfl)
      · cases h0
    · cases h
  | .zip e f, W, X, Γ, fz, tx, it, g, h => by
    unfold chkSrc at h
    split at h
    · simp only [Bool.and_eq_true, decide_eq_true_eq] at h
      obtain ⟨⟨⟨⟨⟨⟨rfl, h0⟩, h1⟩, h2⟩, h4⟩, h3⟩, h5⟩ := h
      unfold isTupE at h0
      split at h0
      · exact m_szip g.K (g.gl h1) (g.no (by decide +kernel)) (star_cons h2) (star_one h4) ((chkE_ok e g h3).1 rfl) ((chkE_ok f g h5).1 rfl)
      · cases h0
    · cases h
end
end MP

/-! MPC: methods of an own list; except suites looked at. -/
namespace MP
open PySem PySem.Spec PyProof.Rows L2
def lmName : LM → Str
  | .ext => "extend" | .pop => "pop" | .popAt => "pop" | .ins => "insert" | .rev => "reverse" | .clr => "clear"
def lmNo : LM → Bool
  | .pop | .rev | .clr => true
  | _ => false
def tLM (C : Cn) (W : WX) (i : Nat) (m : LM) (ms : Env' → Sto → R (List D)) : TE := fun σ H Q => ∃ F L S ρ xs, Ok C F L H S ∧ EnvOk C F L H ρ σ ∧ ρ[i]? = some (.own (.lst xs)) ∧
  Rn C W σ F L H (ms ρ S) fun F' L' H' _ ds => ∃ r ys, lmF m xs ds = some (r, ys) ∧ ∀ p vs' v, σ[i]? = some (some (.ref p)) → F' p = none → p ∉ L' → vs'.length ≤ sizeLine → RepAll C F' L' vs' ys → Rep C F' L' v r → Q v (upd H' p (.lst vs'))
section
variable {C : Cn} {W : WX} {X : Cx} {ms : Env' → Sto → R (List D)} {p apos cpos : Pos} {x : Str} {i : Nat} {es : List Expr} {e : Expr}
/-- what a method's rule wants, from what the list is and the arguments are -/
def LmR (C : Cn) (m : LM) (r : V → List V → Hp → VK → Prop) : Prop := ∀ (F : Hp) (L : List Addr) (H : Hp) (S : Sto) (p : Addr) (vs us : List V) (xs ds ys : List D) (d : D) (Q : VK), Ok C F L H S → H p = some (.lst vs) → vs.length ≤ sizeLine → RepAll C F L vs xs → RepAll C F L us ds → lmF m xs ds = some (d, ys) →
  (∀ vs' v, vs'.length ≤ sizeLine → RepAll C F L vs' ys → Rep C F L v d → Q v (upd H p (.lst vs'))) → r (.ref p) us H Q
theorem lm_end {m : LM} {r : V → List V → Hp → VK → Prop} (hr : LmR C m r) {F L : _} {H : Hp} {S : Sto} {ρ : Env'} {σ : Sg} {v : V} {us : List V} {ds xs : List D} {Q : VK} {d : D} {ys : List D} (k : Ok C F L H S) (en : EnvOk C F L H ρ σ) (hi : ρ[i]? = some (.own (.lst xs))) (hs : σ[i]? = some (some v)) (ru : RepAll C F L us ds) (hl : lmF m xs ds = some (d, ys))
    (q : ∀ p vs' v, σ[i]? = some (some (.ref p)) → F p = none → p ∉ L → vs'.length ≤ sizeLine → RepAll C F L vs' ys → Rep C F L v d → Q v (upd H p (.lst vs'))) : r v us H Q := by
  obtain ⟨v', hs', r'⟩ := en.own hi
  rw [hs] at hs'
  cases hs'
  obtain ⟨p', vs, rfl, h1, z, f, l, rr⟩ := r'.lstAt
  exact hr F L H S p' vs us xs ds ys d Q k h1 z rr ru hl fun vs' v z' r1 r2 => q p' vs' v hs f l z' r1 r2
theorem m_lmA {m : LM} {id : String} {r : V → List V → Hp → VK → Prop} (hv : PE X (.Name x p) (tVar i)) (hr : LmR C m r) (hm : MtR X id r) (slot : PySem.Slot "list" (lmName m) id) (ty : typeOf (.builtin id) = pure (.type "method_descriptor")) (hK : X.K = C.K)
    (hbase : attributeBase (.Name x p) (lmName m) X.env (eval (.Name x p) X.env) = eval (.Name x p) X.env) (hfew : ((backTo cpos (starEach (e :: es) X.env)).all (fun x => !x.1) && (backToKw cpos (keywordEach [] X.env)).all (fun x => x.1.isSome)
      && decide ((e :: es).length + ([] : List Keyword).length + (if ([] : List Keyword).isEmpty then 0 else 1) < 30)) = true) (hline : (apos.endLine == cpos.line) = true)
    (hs : starEach (e :: es) X.env = (false, eval e X.env) :: starEach es X.env) (hpl : (backTo cpos (starEach es X.env)).any (·.1) = false) (he : PA X (e :: es) (tA C W ms)) :
    PE X (.Call (.Attribute (.Name x p) (lmName m) apos) (e :: es) [] cpos) (tLM C W i m ms) := by
  refine PE.imp (pe_bm PySem.F.plainAttrs_list slot ty hm hv he hbase hfew hline hs hpl) fun σ H Q ⟨F, L, S, ρ, xs, k, en, hi, q⟩ => ?_
  obtain ⟨v, hsl, r0⟩ := en.own hi
  obtain ⟨p0, vs0, rfl, h0, _⟩ := r0.lstAt
  refine ⟨_, hsl, .inl ⟨rfl, vs0, SqL.of h0⟩, F, L, S, ρ, k, en, q.imp fun F1 L1 H1 S1 ds e1 k1 ⟨d, ys, hl, q1⟩ us ru => ?_⟩
  exact lm_end hr k1 (en.ext e1) hi hsl ru hl q1
theorem m_lm0 {m : LM} {id : String} {r : V → List V → Hp → VK → Prop} (hv : PE X (.Name x p) (tVar i)) (hr : LmR C m r) (hm : MtR X id r) (slot : PySem.Slot "list" (lmName m) id) (ty : typeOf (.builtin id) = pure (.type "method_descriptor")) (hK : X.K = C.K)
    (hbase : attributeBase (.Name x p) (lmName m) X.env (eval (.Name x p) X.env) = eval (.Name x p) X.env) (hline : (apos.endLine == cpos.line) = true) :
    PE X (.Call (.Attribute (.Name x p) (lmName m) apos) [] [] cpos) (tLM C W i m fun _ s => .ok [] s) := by
  refine PE.imp (pe_bm0 PySem.F.plainAttrs_list slot ty hm hv hbase hline) fun σ H Q ⟨F, L, S, ρ, xs, k, en, hi, q⟩ => ?_
  obtain ⟨v, hsl, r0⟩ := en.own hi
  obtain ⟨p0, vs0, rfl, h0, _⟩ := r0.lstAt
  refine ⟨_, hsl, .inl ⟨rfl, vs0, SqL.of h0⟩, ?_⟩
  obtain ⟨d, ys, hl, q1⟩ := q.now k
  exact lm_end hr k en hi hsl .nil hl q1
theorem lr_ext : LmR C .ext rExtend := fun F L H S p vs us xs ds ys d Q k h z r ru hl q => by
  match ds, us, ru, hl with
  | [.lst zs], [u], .cons r1 .nil, hl =>
    simp only [lmF] at hl
    split at hl
    · rename_i hz
      cases hl
      have r1 : Rep C F L u (.lst zs) := r1
      cases r1 with
      | @lst b ws _ hb zb rb =>
        have z2 : vs.length + ws.length ≤ sizeLine := by rw [r.length, rb.length, sizeBIG]; exact hz
        exact ⟨p, b, vs, ws, rfl, rfl, h, k.sub _ _ hb, z2, q _ _ (by rw [List.length_append]; exact z2) (r.append rb) .non⟩
    · cases hl
theorem lr_pop : LmR C .pop rPop := fun F L H S p vs us xs ds ys d Q k h z r ru hl q => by
  match ds, us, ru, hl with
  | [], [], .nil, hl =>
    simp only [lmF, Option.map_eq_some_iff] at hl
    obtain ⟨y, hy, e⟩ := hl
    cases e
    obtain ⟨w, hw, rw'⟩ := r.get hy
    refine ⟨p, vs, w, rfl, rfl, h, by rw [r.length]; exact hw, q _ _ ?_ r.dropLast rw'⟩
    rw [List.length_dropLast]; omega
theorem lr_popAt : LmR C .popAt rPopAt := fun F L H S p vs us xs ds ys d Q k h z r ru hl q => by
  match ds, us, ru, hl with
  | [.int i], [u], .cons r1 .nil, hl =>
    simp only [lmF] at hl
    split at hl
    · rename_i hz
      simp only [Bool.and_eq_true, decide_eq_true_eq] at hz
      obtain ⟨j, hj, hl⟩ := Option.bind_eq_some_iff.mp hl
      obtain ⟨y, hy, e⟩ := Option.map_eq_some_iff.mp hl
      cases e
      have r1 : Rep C F L u (.int i) := r1
      cases r1
      obtain ⟨w, hw, rw'⟩ := r.get hy
      refine ⟨p, vs, i, j, w, rfl, rfl, h, hz.1, hz.2, by rw [r.length]; exact hj, hw, q _ _ ?_ (r.eraseIdx j) rw'⟩
      have := List.length_eraseIdx_le vs j
      omega
    · cases hl
theorem lr_ins : LmR C .ins (fun x vs H Q => ∃ (l : Addr) (xs : List V) (i : Int) (y : V), x = .ref l ∧ vs = [.int i, y] ∧ H l = some (.lst xs) ∧ xs.length < sizeLine ∧ 0 ≤ i ∧ i < 2 ^ 63 ∧
    Q .non (upd H l (.lst (xs.take i.toNat ++ [y] ++ xs.drop i.toNat)))) := fun F L H S p vs us xs ds ys d Q k h z r ru hl q => by
  match ds, us, ru, hl with
  | [.int i, y], [u, w], .cons r1 (.cons r2 .nil), hl =>
    simp only [lmF] at hl
    split at hl
    · rename_i hz
      simp only [Bool.and_eq_true, decide_eq_true_eq] at hz
      cases hl
      have r1 : Rep C F L u (.int i) := r1
      cases r1
      have zl : vs.length < sizeLine := by rw [r.length, sizeBIG]; exact hz.1.1
      refine ⟨p, vs, i, w, rfl, rfl, h, zl, hz.1.2, hz.2, q _ _ ?_ (((r.take _).append (.cons r2 .nil)).append (r.drop _)) .non⟩
      rw [List.length_append, List.length_append, List.length_take, List.length_drop, List.length_singleton]
      omega
    · cases hl
theorem lr_rev : LmR C .rev rReverse := fun F L H S p vs us xs ds ys d Q k h z r ru hl q => by
  match ds, us, ru, hl with
  | [], [], .nil, hl =>
    simp only [lmF] at hl
    cases hl
    exact ⟨p, vs, rfl, rfl, h, q _ _ (by rw [List.length_reverse]; exact z) r.reverse .non⟩
theorem lr_clr : LmR C .clr rClear := fun F L H S p vs us xs ds ys d Q k h z r ru hl q => by
  match ds, us, ru, hl with
  | [], [], .nil, hl =>
    simp only [lmF] at hl
    cases hl
    exact ⟨p, vs, rfl, rfl, h, q _ _ (Nat.zero_le _) .nil .non⟩
end
theorem ty_ext : typeOf (.builtin "list.extend") = pure (.type "method_descriptor") := by show builtinType _ = _; rw [builtinType_eq_fast]; kernel_rfl
theorem ty_pop : typeOf (.builtin "list.pop") = pure (.type "method_descriptor") := by show builtinType _ = _; rw [builtinType_eq_fast]; kernel_rfl
theorem ty_ins : typeOf (.builtin "list.insert") = pure (.type "method_descriptor") := by show builtinType _ = _; rw [builtinType_eq_fast]; kernel_rfl
theorem ty_rev : typeOf (.builtin "list.reverse") = pure (.type "method_descriptor") := by show builtinType _ = _; rw [builtinType_eq_fast]; kernel_rfl
theorem ty_clr : typeOf (.builtin "list.clear") = pure (.type "method_descriptor") := by show builtinType _ = _; rw [builtinType_eq_fast]; kernel_rfl
/-- a method call on an own list looked at -/
def lmB (Γ : Gm) (m : LM) (i : Nat) (es : List E) (ex : Expr) : Bool := match ex with
  | .Call (.Attribute (.Name x _) n ap) xs [] cp => decide (n = lmName m) && decide (ap.endLine = cp.line) && nmB Γ i x && xs.all notStar && decide (xs.length < 5) && chkL Γ .rep es xs && (if lmNo m then xs.isEmpty && es.isEmpty else !xs.isEmpty)
  | _ => false
theorem evEs_L {fn : Nat → FS} {es : List E} : es.isEmpty = true → (fun ρ s => evEs fn ρ es s) = fun _ s => .ok [] s := by
  intro h
  cases es with
  | nil => rfl
  | cons a b => cases h
section
variable {C : Cn} {W : WX} {X : Cx} {Γ : Gm} {fs : List FS}
theorem lmB_ok (g : Good C W Γ fs X) {m : LM} {i : Nat} {es : List E} {ex : Expr} (h : lmB Γ m i es ex = true) : PE X ex (tLM C W i m fun ρ s => evEs (fnL fs) ρ es s) := by
  unfold lmB at h
  split at h
  · rename_i x p n ap xs cp
    simp only [Bool.and_eq_true, decide_eq_true_eq] at h
    obtain ⟨⟨⟨⟨⟨⟨rfl, h1⟩, h2⟩, h3⟩, h4⟩, h5⟩, h6⟩ := h
    have hv := g.name (pos := p) h2
    have hbase : attributeBase (.Name x p) (lmName m) X.env (eval (.Name x p) X.env) = eval (.Name x p) X.env := ab_of rfl
    have hline : (ap.endLine == cp.line) = true := by simpa using h1
    have ha := (chkL_ok es g h5).pa h3
    by_cases hm : lmNo m = true
    · rw [if_pos hm] at h6
      simp only [Bool.and_eq_true] at h6
      have e1 : xs = [] := List.isEmpty_iff.mp h6.1
      subst e1
      rw [evEs_L h6.2]
      cases m with
      | pop => exact m_lm0 hv lr_pop mt_pop PySem.F.slot_list_pop ty_pop g.K hbase hline
      | rev => exact m_lm0 hv lr_rev mt_reverse PySem.F.slot_list_reverse ty_rev g.K hbase hline
      | clr => exact m_lm0 hv lr_clr mt_clear PySem.F.slot_list_clear ty_clr g.K hbase hline
      | ext => cases hm
      | popAt => cases hm
      | ins => cases hm
    · rw [if_neg hm] at h6
      cases xs with
      | nil => cases h6
      | cons a as =>
        simp only [List.all_cons, Bool.and_eq_true] at h3
        have hst := star_cons (es := as) (env := X.env) h3.1
        have hpl := star_none (pos := cp) (env := X.env) h3.2
        have hfew : ((backTo cp (starEach (a :: as) X.env)).all (fun x => !x.1) && (backToKw cp (keywordEach [] X.env)).all (fun x => x.1.isSome)
            && decide ((a :: as).length + ([] : List Keyword).length + (if ([] : List Keyword).isEmpty then 0 else 1) < 30)) = true := by
          have e1 : (backTo cp (starEach (a :: as) X.env)).all (fun x => !x.1) = true := by
            rw [hst]
            have : ((backTo cp (starEach as X.env)).all fun x => !x.1) = !((backTo cp (starEach as X.env)).any (·.1)) := by simp [List.all_eq_not_any_not]
            show (!false && (backTo cp (starEach as X.env)).all fun x => !x.1) = true
            rw [this, hpl]; rfl
          rw [e1]
          simp only [List.length_cons] at h4 ⊢
          simp only [List.isEmpty_nil, if_true, List.length_nil, Bool.true_and, Bool.and_eq_true, decide_eq_true_eq]
          exact ⟨rfl, by omega⟩
        cases m with
        | ext => exact m_lmA hv lr_ext mt_extend PySem.F.slot_list_extend ty_ext g.K hbase hfew hline hst hpl ha
        | popAt => exact m_lmA hv lr_popAt mt_popAt PySem.F.slot_list_pop ty_pop g.K hbase hfew hline hst hpl ha
        | ins => exact m_lmA hv lr_ins mt_insert PySem.F.slot_list_insert ty_ins g.K hbase hfew hline hst hpl ha
        | pop => exact absurd rfl hm
        | rev => exact absurd rfl hm
        | clr => exact absurd rfl hm
  · cases h
end
/-! ### except suites -/
def eaB (Γ : Gm) (h : Hdl) (e : EA) (ex : Expr) : Bool := match e with
  | .lit d => (match ex with | .Constant c _ _ => litOk d c | _ => false)
  | .fld => (match ex with | .Attribute (.Name n _) f _ => decide (f = xfN h.c) && decide (h.c ≠ 0) && (match h.nm with | some i => nmB Γ i n | none => false) | _ => false)
def easB (Γ : Gm) (h : Hdl) : List EA → List Expr → Bool
  | [], [] => true
  | e :: es, x :: xs => notStar x && eaB Γ h e x && easB Γ h es xs
  | _, _ => false
def ehB (Γ : Gm) (h : Hdl) (e : EH) (ex : Expr) : Bool := match e with
  | .at_ a => eaB Γ h a ex
  | .tup l => (match ex with | .Tuple xs _ _ => easB Γ h l xs | _ => false)
  | .lst l => (match ex with | .List xs _ => easB Γ h l xs | _ => false)
  | .ifr a => (match ex with
    | .IfExp (.Call (.Name y _) [.Name n _, .Name z _] [] _) p _ _ => decide (y = ("isinstance" : Str)) && glB Γ.sc y && (match h.nm with | some i => nmB Γ i n | none => false) && decide ((z, 0) ∈ Γ.xc) && glB Γ.sc z && decide (h.c ≠ 0) && ehB Γ h a p
    | _ => false)
def hstB (Γ : Gm) (h : Hdl) (st : Stmt) : Bool := match h.h with
  | .asg j e => (match st with | .Assign [.Name x px] v _ => stB Γ j x && (match Γ.sc.kind with | .function => true | _ => false) && notComp v && ehB Γ h e v | _ => false)
  | .ret e => (match st with | .Return (some v) _ => ehB Γ h e v | _ => false)
  | .setI j k e => (match st with | .Assign [.Subscript (.Name x _) (.Constant (.int i) _ _) _] v _ => nmB Γ j x && decide (i = k) && ehB Γ h e v | _ => false)
/-- what a suite's expression leans on -/
def HF (C : Cn) (xs : List Nat) (h : Hdl) (a : Addr) (cls : Value) (d : Option Addr) (x : Exn) (F : Hp) (L : List Addr) (S : Sto) (H : Hp) (σ : Sg) : Prop := cls = .ref (C.cx x.c) ∧ xs.contains x.c = true ∧ subX h.c x.c = true ∧ XOk C F L H x d ∧ (∀ i, h.nm = some i → i < σ.length → σ[i]? = some (some (.ref a))) ∧ Ok C F L H S
def tEA (C : Cn) (xs : List Nat) (h : Hdl) (a : Addr) (cls : Value) (d : Option Addr) (e : EA) : TE := fun σ H Q => ∃ x F L S, HF C xs h a cls d x F L S H σ ∧ ∃ dv, evEA x e = some dv ∧ ∀ v, Rep C F L v dv → Q v H
def tEAs (C : Cn) (xs : List Nat) (h : Hdl) (a : Addr) (cls : Value) (d : Option Addr) (e : List EA) : TA := fun σ H Q => ∃ x F L S, HF C xs h a cls d x F L S H σ ∧ ∃ dv, evEAs x e = some dv ∧ ∀ v, RepAll C F L v dv → Q v H
def tEH (C : Cn) (xs : List Nat) (h : Hdl) (a : Addr) (cls : Value) (d : Option Addr) (e : EH) : TE := fun σ H Q => ∃ x F L S, HF C xs h a cls d x F L S H σ ∧ ∃ dv, evEH x e = some dv ∧ ∀ F' L' H' v, Ext F L H F' L' H' → Ok C F' L' H' S → Rep C F' L' v dv → Q v H'
theorem pe_absurd {X : Cx} {e : Expr} : PE X e (fun _ _ _ => False) := ⟨fun _ _ _ _ _ _ q => q.elim⟩
theorem lit_rep {C : Cn} {F : Hp} {L : List Addr} {d : D} {c : Const} (h : litOk d c = true) : ∃ v, (∀ {X : Cx} {k : Nat} {p : Pos}, PE X (.Constant c k p) (tC v)) ∧ Rep C F L v d := by
  unfold litOk at h
  split at h
  · exact ⟨.non, pe_non, .non⟩
  · have h := eq_of_beq h
    subst h
    exact ⟨.bl _, pe_bl, .bl _⟩
  · have h := of_decide_eq_true h
    subst h
    exact ⟨.int _, pe_int, .int _⟩
  · simp only [Bool.and_eq_true, decide_eq_true_eq] at h
    obtain ⟨rfl, h⟩ := h
    exact ⟨.str _, pe_str, .str _ h⟩
  · cases h
section
variable {C : Cn} {W : WX} {X : Cx} {Γ : Gm} {fs : List FS} {xs : List Nat} {h : Hdl} {a : Addr} {cls : Value} {d : Option Addr} {oe : Obj} {pn : List (Addr × Obj)}
theorem Good.nameS (g : Good C W Γ fs X) {i : Nat} {x : Str} {pos : Pos} (h : nmB Γ i x = true) : PE (X.suite a ((a, oe) :: pn)) (.Name x pos) (tVar i) := by
  simp only [nmB, Bool.and_eq_true, decide_eq_true_eq] at h
  exact pe_var (X := X.suite a ((a, oe) :: pn)) (by show X.N[i]? = _; rw [g.hN]; exact h.1.1) (by show Vis X.env.scope x; rw [g.sc]; exact vis_of h.1.2) (dbg_of h.2).1 (dbg_of h.2).2
theorem sub_ne {c c' : Nat} (h : subX c c' = true) (n : c ≠ 0) : c' = c := by
  unfold subX at h
  simp only [Bool.or_eq_true, beq_iff_eq] at h
  rcases h with h | h
  · exact absurd h n
  · exact h.symm
theorem ea_ok (g : Good C W Γ fs X) (hxs : ∀ c, xs.contains c = true → ∃ n, (n, c) ∈ Γ.xc) (hz : Zc cls d oe) (hf : ∃ vs, oe.data = .fields vs) {e : EA} {ex : Expr} (q : eaB Γ h e ex = true) : PE (X.suite a ((a, oe) :: pn)) ex (tEA C xs h a cls d e) := by
  cases e with
  | lit dd =>
    simp only [eaB] at q
    split at q
    · refine ⟨fun pins s σ H Q I ⟨x, F, L, S, hf, dv, e, k⟩ => ?_⟩
      obtain ⟨v, p, r⟩ := lit_rep (C := C) (F := F) (L := L) q
      cases e
      exact p.run pins s σ H Q I (k v r)
    · cases q
  | fld =>
    simp only [eaB] at q
    split at q
    · rename_i n p f p2
      simp only [Bool.and_eq_true, decide_eq_true_eq] at q
      obtain ⟨⟨rfl, hne⟩, q⟩ := q
      split at q
      · rename_i i hi
        have hn := g.nameS (pos := p) (a := a) (oe := oe) (pn := pn) q
        refine ⟨fun pins s σ H Q I ⟨x, F, L, S, ⟨hc, hcx, hs, o, hnm, k⟩, dv, e, kq⟩ => ?_⟩
        have hxc := sub_ne hs hne
        obtain ⟨xn, hmem⟩ := hxs _ hcx
        have T := g.b.xc.xf _ hmem
        have hno := g.b.xc.no _ hmem
        have T' : XfC X.K (C.cx h.c) := by rw [← hxc]; exact T
        have hno' : PySem.W.findIn X.K (.ref (C.cx h.c)) (xfN h.c) = some none := by rw [← hxc]; exact hno
        have P := pe_xf (pos := p2) T' hno' hz hf hn (by exact ab_of rfl)
        have hlen : i < σ.length := by
          rw [I.len]
          simp only [nmB, Bool.and_eq_true, decide_eq_true_eq] at q
          show i < X.N.length
          rw [g.hN]
          exact (List.getElem?_eq_some_iff.mp q.1.1).1
        unfold XOk at o
        have e : x.a = some dv := e
        rw [e] at o
        obtain ⟨ad, v, e1, e2, r⟩ := o
        refine P.run pins s σ H Q I ⟨.ref a, hnm i hi hlen, rfl, by rw [hc, hxc], ad, _, v, e1, e2, by rw [hxc]; simp [List.lookup], kq v r⟩
      · cases q
    · cases q
theorem eas_ok (g : Good C W Γ fs X) (hxs : ∀ c, xs.contains c = true → ∃ n, (n, c) ∈ Γ.xc) (hz : Zc cls d oe) (hf : ∃ vs, oe.data = .fields vs) : ∀ {e : List EA} {ex : List Expr}, easB Γ h e ex = true → PA (X.suite a ((a, oe) :: pn)) ex (tEAs C xs h a cls d e)
  | [], [], _ => PA.imp pa_nil fun σ H Q ⟨x, F, L, S, hf, dv, e, k⟩ => by cases e; exact k _ .nil
  | e :: es, x :: exs, q => by
    simp only [easB, Bool.and_eq_true] at q
    have p1 := ea_ok (a := a) (pn := pn) g hxs hz hf q.1.2
    have p2 := eas_ok g hxs hz hf q.2
    refine PA.imp (pa_cons p1 p2 (star_cons q.1.1)) fun σ H Q ⟨x, F, L, S, hf, dv, e, k⟩ => ?_
    simp only [evEAs] at e
    obtain ⟨d1, e1, e2⟩ := Option.bind_eq_some_iff.mp e
    obtain ⟨d2, e3, rfl⟩ := Option.map_eq_some_iff.mp e2
    exact ⟨x, F, L, S, hf, d1, e1, fun v r => ⟨x, F, L, S, hf, d2, e3, fun vs rs => k _ (.cons r rs)⟩⟩
  | [], _ :: _, q => by simp [easB] at q
  | _ :: _, [], q => by simp [easB] at q
theorem rowErr_ty (g : Good C W Γ fs X) {z : Str} {c : Nat} (hz : (z, c) ∈ Γ.xc) (hg : glB Γ.sc z = true) {p : Pos} : PE (X.suite a ((a, oe) :: pn)) (.Name z p) (tC (.ref (C.cx c))) := by
  have := g.b.xc.nm _ hz
  have hgl : Gl (X.suite a ((a, oe) :: pn)) z := g.gl hg
  exact pe_glob hgl this rfl (gl_dbg hg)
theorem eh_ok (g : Good C W Γ fs X) (hxs : ∀ c, xs.contains c = true → ∃ n, (n, c) ∈ Γ.xc) (hz : Zc cls d oe) (hf : ∃ vs, oe.data = .fields vs) {e : EH} {ex : Expr} (q : ehB Γ h e ex = true) : PE (X.suite a ((a, oe) :: pn)) ex (tEH C xs h a cls d e) := by
  induction e generalizing ex with
  | at_ e => exact PE.imp (ea_ok g hxs hz hf (a := a) (pn := pn) (show eaB Γ h e ex = true by unfold ehB at q; exact q)) fun σ H Q ⟨x, F, L, S, hf, dv, e, k⟩ => ⟨x, F, L, S, hf, dv, e, fun v r => k _ _ _ _ (Ext.refl _ _ _) hf.2.2.2.2.2 r⟩
  | tup l =>
    unfold ehB at q
    split at q
    · refine PE.imp (pe_tup (eas_ok g hxs hz hf (a := a) (pn := pn) q)) fun σ H Q ⟨x, F, L, S, hf, dv, e, k⟩ => ?_
      obtain ⟨ds, e1, e2⟩ := Option.bind_eq_some_iff.mp e
      obtain ⟨rfl, zz⟩ := mkTup_some e2
      refine ⟨x, F, L, S, hf, ds, e1, fun vs r => ⟨by rw [r.length]; exact zz, fun p n => ?_⟩⟩
      obtain ⟨F', x1, x2, x3⟩ := new_tup hf.2.2.2.2.2 n (by rw [r.length]; exact zz) r
      exact k _ _ _ _ x1 x2 x3
    · cases q
  | lst l =>
    unfold ehB at q
    split at q
    · refine PE.imp (pe_lst (eas_ok g hxs hz hf (a := a) (pn := pn) q)) fun σ H Q ⟨x, F, L, S, hf, dv, e, k⟩ => ?_
      obtain ⟨ds, e1, e2⟩ := Option.bind_eq_some_iff.mp e
      obtain ⟨rfl, zz⟩ := mkLst_some e2
      refine ⟨x, F, L, S, hf, ds, e1, fun vs r => ⟨by rw [r.length]; exact zz, fun p n => ?_⟩⟩
      obtain ⟨x1, x2, x3⟩ := new_lst hf.2.2.2.2.2 n (by rw [r.length]; exact zz) r
      obtain ⟨F2, k2, x4, r2⟩ := x3.freeze x2 x1
      exact k _ _ _ _ x4 k2 r2
    · cases q
  | ifr e ih =>
    unfold ehB at q
    split at q
    · rename_i y py n pnn z pz pc p x q0
      simp only [Bool.and_eq_true, decide_eq_true_eq] at q
      obtain ⟨⟨⟨⟨⟨⟨rfl, h1⟩, h2⟩, h3⟩, h4⟩, hne⟩, h5⟩ := q
      split at h2
      · rename_i i hi
        by_cases hcls : cls = .ref (C.cx h.c) ∧ ∃ nn, (nn, h.c) ∈ Γ.xc
        · obtain ⟨rfl, nn, hmem⟩ := hcls
          have ec : ExcC X.K (C.cx h.c) := g.b.xc.ec _ hmem
          have hn := g.nameS (pos := pnn) (a := a) (oe := oe) (pn := pn) h2
          have hr := rowErr_ty g h3 h4 (a := a) (oe := oe) (pn := pn) (p := pz)
          have hgl : Gl (X.suite a ((a, oe) :: pn)) "isinstance" := g.gl h1
          have P := pe_callB (p := py) (pos := pc) (call_isG (pn := pn) (a := a) ec hz hf) hgl (g.no (by decide +kernel)) (by decide +kernel) (pa_cons hn (pa_cons hr pa_nil rfl) rfl) (by decide) (by decide) rfl rfl
          have T := pt_truth P (it_of (by rfl))
          have A := ih h5
          have hlen : ∀ {σ : Sg} {H : Hp} {pins : List (Addr × Obj)} {s : Shared}, Inv (X.suite a ((a, oe) :: pn)) pins σ H s → i < σ.length := fun I => by
            rw [I.len]
            simp only [nmB, Bool.and_eq_true, decide_eq_true_eq] at h2
            show i < X.N.length
            rw [g.hN]
            exact (List.getElem?_eq_some_iff.mp h2.1.1).1
          refine ⟨fun pins s σ H Q I qq => ?_⟩
          have hl := hlen I
          refine (pe_ifExp T A pe_absurd).run pins s σ H Q I ?_
          obtain ⟨x, F, L, S, ⟨hc, hcx, hs, o, hnm, k⟩, dv, e, kq⟩ := qq
          have hxc := sub_ne hs hne
          have hd : d = none ∨ ∃ dd fs, d = some dd ∧ H dd = some (.xd fs) := by
            unfold XOk at o
            split at o
            · exact .inl o
            · obtain ⟨ad, v, e1, e2, _⟩ := o
              exact .inr ⟨ad, _, e1, e2⟩
          refine ⟨.ref a, hnm i hi hl, ?_⟩
          refine ⟨.ref (C.cx 0), .ref (C.cx 0), true, rfl, fun u r => r, hd, g.b.xc.xk _ hmem _ h3 rfl, true, rfl, ?_⟩
          exact iteT ⟨x, F, L, S, ⟨hc, hcx, hs, o, hnm, k⟩, dv, e, kq⟩
        · refine ⟨fun pins s σ H Q I ⟨x, F, L, S, ⟨hc, hcx, hs, o, hnm, k⟩, _⟩ => ?_⟩
          have hxc := sub_ne hs hne
          obtain ⟨xn, hmem⟩ := hxs _ hcx
          exact absurd ⟨by rw [hc, hxc], xn, by rw [← hxc]; exact hmem⟩ hcls
      · cases h2
    · cases q
theorem hst_ok {F0 : Hp} {L0 : List Addr} {H0 : Hp} {lv : Lv} (g : Good C W Γ fs X) (hxs : ∀ c, xs.contains c = true → ∃ n, (n, c) ∈ Γ.xc) (hz : Zc cls d oe) (hf : ∃ vs, oe.data = .fields vs) {st : Stmt} (q : hstB Γ h st = true) : PS (X.suite a ((a, oe) :: pn)) st (tHd C F0 L0 H0 lv xs h a cls d) := by
  unfold hstB at q
  split at q
  · rename_i j e hh
    split at q
    · rename_i x px v pp
      simp only [Bool.and_eq_true] at q
      obtain ⟨⟨⟨h1, h2⟩, h3⟩, h4⟩ := q
      simp only [stB, Bool.and_eq_true, Bool.or_eq_true, decide_eq_true_eq] at h1
      have hloc : Loc X.env.scope x := by
        rw [g.sc]
        rcases h1.2 with h | h
        · exact .inl h
        · exact .inr h.1
      have hfn : X.fn x = true ∨ X.env.scope.names.lookup x = some .local := by
        rw [g.sc]
        rcases h1.2 with h | h
        · exact .inr h
        · exact .inl (g.own _ h.2)
      have P := ps_set (X := X.suite a ((a, oe) :: pn)) (pos' := px) (pos := pp) (i := j) g.nN (by show X.N[j]? = _; rw [g.hN]; exact h1.1) hloc (eh_ok g hxs hz hf h4) (sw_of h3) hfn
      refine PS.imp P fun D' σ H ⟨x, F, L, S, ρ, hc, hcx, hs, o, hnm, x0, k, en, ow, qq⟩ => ?_
      have qq := qq W0
      rw [hh] at qq
      simp only [evHSt] at qq
      obtain ⟨dv, he, qq⟩ := qq.got
      exact ⟨x, F, L, S, ⟨hc, hcx, hs, o, hnm, k⟩, dv, he, fun F' L' H' v x1 k1 r => qq F' L' H' _ (x0.trans x1) x1.grow k1 ((en.ext x1).setI r) ow.setI⟩
    · cases q
  · rename_i e hh
    split at q
    · rename_i v pp
      refine PS.imp (ps_ret (X := X.suite a ((a, oe) :: pn)) (pos := pp) (eh_ok g hxs hz hf q)) fun D' σ H ⟨x, F, L, S, ρ, hc, hcx, hs, o, hnm, x0, k, en, ow, qq⟩ => ?_
      have qq := qq W0
      rw [hh] at qq
      simp only [evHSt] at qq
      obtain ⟨dv, he, qq⟩ := qq.got
      split at qq
      · rename_i hfl
        refine ⟨x, F, L, S, ⟨hc, hcx, hs, o, hnm, k⟩, dv, he, fun F' L' H' v x1 k1 r => qq F' L' H' v (x0.trans x1) k1 ?_⟩
        cases lv with
        | pk => exact .rep r
        | rep => exact r
        | fr => exact Vok.re (by cases dv <;> first | rfl | cases hfl) r
      · exact False.elim qq
    · cases q
  · rename_i j kk e hh
    split at q
    · rename_i x p0 i0 j0 p1 sp v pp
      simp only [Bool.and_eq_true, decide_eq_true_eq] at q
      obtain ⟨⟨h1, rfl⟩, h3⟩ := q
      have hn := g.nameS (pos := p0) (a := a) (oe := oe) (pn := pn) h1
      have hk : PE (X.suite a ((a, oe) :: pn)) (.Constant (.int i0) j0 p1) (tC (.int i0)) := pe_int
      have P := ps_asg (X := X.suite a ((a, oe) :: pn)) (pos := pp) (eh_ok g hxs hz hf h3) (pg_sub (pos := sp) hn hk set_list (fun v => rfl)) (by unfold swapsWithSole; cases v <;> rfl) (by rfl)
      refine PS.imp P fun D' σ H ⟨x, F, L, S, ρ, hc, hcx, hs, o, hnm, x0, k, en, ow, qq⟩ => ?_
      have qq := qq W0
      rw [hh] at qq
      simp only [evHSt] at qq
      obtain ⟨ys, hi, qq⟩ := qq.got
      obtain ⟨dv, he, qq⟩ := qq.got
      obtain ⟨oo, ho, qq⟩ := qq.got
      have hi := lstOwn_some hi
      simp only [dSetI, Option.map_eq_some_iff] at ho
      obtain ⟨n, hn', rfl⟩ := ho
      refine ⟨x, F, L, S, ⟨hc, hcx, hs, o, hnm, k⟩, dv, he, fun F' L' H' v x1 k1 r => ?_⟩
      have en1 := en.ext x1
      obtain ⟨v', hsl', r'⟩ := en1.own hi
      obtain ⟨p', vs', rfl, h1', z', f', l', rr'⟩ := r'.lstAt
      obtain ⟨a1, a2, a3, a4⟩ := own_list (vs := vs') (vs' := vs'.set n v) (xs' := ys.set n dv) (x0.trans x1) k1 en1 ow hi hsl' f' l' (by rw [List.length_set]; exact z') (RepAll.set r n rr')
      exact ⟨_, hsl', p', vs', i0, n, rfl, rfl, h1', by rw [rr'.length]; exact hn', qq _ _ _ _ a1 x1.grow a2 a3 a4⟩
    · cases q
/-- a clause looked at -/
def hdlB (Γ : Gm) (xs : List Nat) (h : Hdl) (eh : ExceptHandler) : Bool := match eh with
  | .ExceptHandler (some (.Name x _)) nm [st] _ => decide ((x, h.c) ∈ Γ.xc) && glB Γ.sc x && (match nm, h.nm with
    | none, none => true
    | some n, some i => decide (Γ.N[i]? = some n) && decide (Γ.sc.names.lookup n = some .local)
    | _, _ => false) && hstB Γ h st
  | _ => false
def hdlsB (Γ : Gm) (xs : List Nat) : List Hdl → List ExceptHandler → Bool
  | [], [] => true
  | h :: hs, e :: es => hdlB Γ xs h e && hdlsB Γ xs hs es
  | _, _ => false
theorem hdls_ok {F0 : Hp} {L0 : List Addr} {H0 : Hp} {lv : Lv} (g : Good C W Γ fs X) (hxs : ∀ c, xs.contains c = true → ∃ n, (n, c) ∈ Γ.xc) : ∀ {hs : List Hdl} {es : List ExceptHandler}, hdlsB Γ xs hs es = true → ∃ l, HdsG X es l ∧ Hr C F0 L0 H0 lv xs hs l ∧ ∀ h ∈ hs, ∃ n, (n, h.c) ∈ Γ.xc
  | [], [], _ => ⟨[], .nil, .nil, fun _ h => by cases h⟩
  | h :: hs, e :: es, q => by
    simp only [hdlsB, Bool.and_eq_true] at q
    obtain ⟨l, h1, h2, h3⟩ := hdls_ok g hxs q.2
    have q1 := q.1
    unfold hdlB at q1
    split at q1
    · rename_i x p nm st p2
      simp only [Bool.and_eq_true, decide_eq_true_eq] at q1
      obtain ⟨⟨⟨a1, a2⟩, a3⟩, a4⟩ := q1
      have nmx : Names X x (.ref (C.cx h.c)) := ⟨g.gl a2, gl_dbg a2, .inl (g.b.xc.nm _ a1)⟩
      have su : ∀ (a : Addr) (oe : Obj) (cls : Value) (d : Option Addr) (pn : List (Addr × Obj)), Zc cls d oe → (∃ vs, oe.data = .fields vs) → PSs (X.suite a ((a, oe) :: pn)) [st] (tHd C F0 L0 H0 lv xs h a cls d) := fun a oe cls d pn z f => pss_one (hst_ok g hxs z f a4)
      refine ⟨(.ref (C.cx h.c), h.nm, tHd C F0 L0 H0 lv xs h) :: l, ?_, .cons h2, fun h' hh => ?_⟩
      · split at a3
        · rename_i e1 e2
          rw [e2]
          exact .cons nmx su h1
        · rename_i n i e2
          rw [e2]
          simp only [Bool.and_eq_true, decide_eq_true_eq] at a3
          exact .consN nmx (by rw [g.hN]; exact a3.1) (by show X.env.scope.names.lookup n = _; rw [g.sc]; exact a3.2) su h1
        · cases a3
      · rcases List.mem_cons.mp hh with rfl | hh
        · exact ⟨x, a1⟩
        · exact h3 h' hh
    · cases q1
  | [], _ :: _, q => by simp [hdlsB] at q
  | _ :: _, [], q => by simp [hdlsB] at q
end
end MP

/-! MP: statements looked at. -/
namespace MP
open PySem PySem.Spec PyProof.Rows L2
section
variable {C : Cn} {F0 : Hp} {L0 : List Addr} {H0 : Hp} {W : WX} {X : Cx} {lv lw : Lv} {a b c : Expr} {pos : Pos} {ma mb mc : Env' → Sto → R D} {Γ : Gm} {fs : List FS} {ms : Env' → Sto → R (List D)} {os : List Bool}
theorem tL.sh {σ : Sg} {H : Hp} {Q Q' : List V → Hp → Prop} (h : tL C W os ms σ H Q) (f : ∀ vs H', vs.length = os.length → Q vs H' → Q' vs H') : tL C W os ms σ H Q' := by
  obtain ⟨F, L, S, ρ, k, en, q⟩ := h
  exact ⟨F, L, S, ρ, k, en, q.imp fun F' L' H' S' ds e k' p vs r => f _ _ r.length.2 (p vs r)⟩
/-! ### several names at once -/
def nmsOf : List Expr → Option (List Str)
  | [] => some []
  | .Name x _ :: es => (nmsOf es).map (x :: ·)
  | _ => none
def swLine (ts : List Expr) : Nat := (ts.head?.map (·.pos.line)).getD 0
def swNames (sc : Scope) (ts : List Expr) : List Str := ts.filterMap fun
    | .Name id pos => if sc.names.lookup id == some .local && pos.line == swLine ts then some id else none
    | _ => none
def starE : Expr → Bool | .Starred _ _ => true | _ => false
theorem starE_fun : (fun e : Expr => match e with | .Starred _ _ => true | _ => false) = starE := by funext e; cases e <;> rfl
/-- what the stores' order is -/
def swap (sc : Scope) (ts vs : List Expr) : Option (Option (List Str)) :=
  if !(ts.length == 2 || ts.length == 3) || vs.length != ts.length then some none else
  if vs.any starE then some none else
  if (swNames sc ts).length != ts.length || (swNames sc ts).eraseDups.length != (swNames sc ts).length then some none else
  if vs.all (foldedForSure 8) then some none else
  if vs.all (constantsAlone 8) then none else some (some (swNames sc ts))
theorem swap_ok {env : Env} {ts vs : List Expr} {k k2 : Nat} {p p2 : Pos} {r : Option (List Str)} (hk : env.scope.kind = .function) (h : swap env.scope ts vs = some r) : swappedStores [.Tuple ts k p] (.Tuple vs k2 p2) env = pure r := by
  have hb : env.blockKind = .function := by unfold Env.blockKind; rw [hk]; rfl
  unfold swappedStores
  simp only [hb, bne_self_eq_false, Bool.or_false, Bool.false_or]
  unfold swap at h
  split at h
  · rename_i h1; cases h; simp only [h1, if_true]
  · rename_i h1
    have h1 := Bool.eq_false_iff.mpr h1
    simp only [h1, Bool.false_eq_true, if_false]
    split at h
    · rename_i h2; cases h; exact if_pos h2
    · rename_i h2
      refine (if_neg h2).trans ?_
      split at h
      · rename_i h3; cases h; exact if_pos h3
      · rename_i h3
        refine (if_neg h3).trans ?_
        split at h
        · rename_i h4; cases h; exact if_pos h4
        · rename_i h4
          refine (if_neg h4).trans ?_
          split at h
          · cases h
          · rename_i h5; cases h; exact if_neg h5
theorem pa_imp' {es : List Expr} {t t' : TA} (h : PA X es t) (f : ∀ σ H Q, t' σ H Q → t σ H Q) : PA X es t' := PA.imp h f
theorem gsOf_set : ∀ {is : List (Bool × Nat)} {vs : List V} {σ : Sg} {H : Hp} {Q : Sg → Hp → Prop}, vs.length = is.length → Q (setVals is vs σ) H → gsOf (is.map (·.2)) vs σ H Q
  | [], [], σ, H, Q, _, q => ⟨rfl, q⟩
  | (o, i) :: is, v :: vs, σ, H, Q, h, q => ⟨_, _, rfl, gsOf_set (is := is) (by simpa using h) q⟩
  | [], _ :: _, _, _, _, h, _ => by simp at h
  | _ :: _, [], _, _, _, h, _ => by simp at h
theorem p_tup {is : List (Bool × Nat)} {vs : List Expr} {k k2 : Nat} {p p2 : Pos} {ts : List Expr} (g : Good C W Γ fs X) (hf : Γ.sc.kind = .function) (hs : swap Γ.sc ts vs = some none) (hl : is.length ≤ 8) (ht : tgsB Γ (is.map (·.2)) ts = true) (hv : PA X vs (tL C W (is.map (·.1)) ms)) :
    PS X (.Assign [.Tuple ts k p] (.Tuple vs k2 p2) pos) (tS C F0 L0 H0 W lv fun ρ s => RS.of (ms ρ s) ρ fun ds s => RS.of (R.of (setPar ρ is ds) s) ρ fun ρ' s => .nx ρ' s) := by
  have hg : PG X (.Tuple ts k p) (gOf C.K (.tup (is.map (·.2)))) := g.tg (tg := .tup (is.map (·.2))) (e := .Tuple ts k p) (by exact ht)
  refine s_par (ps_asg (pe_tup hv) hg (by rfl) (swap_ok (by rw [g.sc]; exact hf) (by rw [g.sc]; exact hs))) fun D' σ H q => ?_
  refine q.sh fun vs H' hl' p => ?_
  rw [List.length_map] at hl'
  refine ⟨by rw [hl', sizeBIG]; exact Nat.le_trans hl (by decide), fun a ha => ⟨a, vs, rfl, .inl (.inl upd_same), by rw [hl', List.length_map], gsOf_set hl' (p _ (.inr ⟨a, ha, rfl⟩))⟩⟩
theorem p_two {o o' : Bool} {i j : Nat} {x y : Str} {a b : Expr} {px py : Pos} {k k2 : Nat} {p p2 : Pos} (g : Good C W Γ fs X) (hf : Γ.sc.kind = .function) (hs : swap Γ.sc [.Name x px, .Name y py] [a, b] = some (some [x, y])) (hi : Γ.N[i]? = some x) (hj : Γ.N[j]? = some y) (hij : i ≠ j)
    (hx : Γ.sc.names.lookup x = some .local) (hy : Γ.sc.names.lookup y = some .local) (hv : PA X [a, b] (tL C W [o, o'] ms)) :
    PS X (.Assign [.Tuple [.Name x px, .Name y py] k p] (.Tuple [a, b] k2 p2) pos) (tS C F0 L0 H0 W lv fun ρ s => RS.of (ms ρ s) ρ fun ds s => RS.of (R.of (setPar ρ [(o, i), (o', j)] ds) s) ρ fun ρ' s => .nx ρ' s) := by
  refine s_par (ps_par g.calm g.nN (by rw [g.hN]; exact hi) (by rw [g.hN]; exact hj) hij (by rw [g.sc]; exact hx) (by rw [g.sc]; exact hy) hv (swap_ok (by rw [g.sc]; exact hf) (by rw [g.sc]; exact hs)) (by rfl)) fun D' σ H q => ?_
  refine q.sh fun vs H' hl p => ?_
  match vs, hl with
  | [v, w], _ => exact ⟨v, w, rfl, p _ (.inl rfl)⟩
theorem p_three {o o' o2 : Bool} {i j l : Nat} {x y z : Str} {a b c : Expr} {px py pz : Pos} {k k2 : Nat} {p p2 : Pos} (g : Good C W Γ fs X) (hf : Γ.sc.kind = .function) (hs : swap Γ.sc [.Name x px, .Name y py, .Name z pz] [a, b, c] = some (some [x, y, z])) (hi : Γ.N[i]? = some x) (hj : Γ.N[j]? = some y) (hl : Γ.N[l]? = some z) (hij : i ≠ j) (hil : i ≠ l) (hjl : j ≠ l)
    (hx : Γ.sc.names.lookup x = some .local) (hy : Γ.sc.names.lookup y = some .local) (hz : Γ.sc.names.lookup z = some .local) (hv : PA X [a, b, c] (tL C W [o, o', o2] ms)) :
    PS X (.Assign [.Tuple [.Name x px, .Name y py, .Name z pz] k p] (.Tuple [a, b, c] k2 p2) pos) (tS C F0 L0 H0 W lv fun ρ s => RS.of (ms ρ s) ρ fun ds s => RS.of (R.of (setPar ρ [(o, i), (o', j), (o2, l)] ds) s) ρ fun ρ' s => .nx ρ' s) := by
  refine s_par (ps_par3 g.calm g.nN (by rw [g.hN]; exact hi) (by rw [g.hN]; exact hj) (by rw [g.hN]; exact hl) hij hil hjl (by rw [g.sc]; exact hx) (by rw [g.sc]; exact hy) (by rw [g.sc]; exact hz) hv (swap_ok (by rw [g.sc]; exact hf) (by rw [g.sc]; exact hs)) (by rfl)) fun D' σ H q => ?_
  refine q.sh fun vs H' hl p => ?_
  match vs, hl with
  | [v, w, u], _ => exact ⟨v, w, u, rfl, p _ (.inl rfl)⟩
/-! ### a comprehension to a name -/
def swB (sc : Scope) (v : Expr) (x : Str) (py : Pos) : Bool := match v with
  | .ListComp _ _ s p | .SetComp _ _ s p | .DictComp _ _ _ s p => decide (sc.names.lookup x = some .local) && (py.line == p.line) && !(s.names.any fun (n, k) => n == x && (k == .local || k == .cell))
  | _ => false
theorem swB_ok {env : Env} {v : Expr} {x : Str} {py : Pos} {l : Nat} (hk : env.scope.kind = .function) : swapsWith v (some (.Name x py)) l env = pure (swB env.scope v x py) := by
  have hb : env.blockKind = .function := by unfold Env.blockKind; rw [hk]; rfl
  have he : (env.kindOf x == some NameKind.local) = decide (env.scope.names.lookup x = some .local) := by
    show (env.scope.names.lookup x == some NameKind.local) = _
    rw [Bool.eq_iff_iff, beq_iff_eq, decide_eq_true_eq]
  cases v <;> first
    | rfl
    | (unfold swapsWith swB; simp only [hb, Expr.pos, he]; rfl)
theorem fr_of_rep {m : Env' → Sto → R D} {σ : Sg} {H : Hp} {Q : VK} (q : tE C W .rep m σ H Q) : tE C W .fr m σ H Q := by
  obtain ⟨F, L, S, ρ, k, en, q⟩ := q
  refine ⟨F, L, S, ρ, k, en, ?_⟩
  cases e : m ρ S with
  | ok d S' =>
    rw [e] at q
    intro F' L' H' x k' v r
    obtain ⟨F2, k2, x2, r2⟩ := Vok.weak r k' x
    exact q _ _ _ x2 k2 _ r2
  | exc x S' => rw [e] at q; exact q
  | stuck => rw [e] at q; exact q
end
/-! ### the looker -/
def isFn (sc : Scope) : Bool := match sc.kind with | .function => true | _ => false
theorem isFn_of {sc : Scope} (h : isFn sc = true) : sc.kind = .function := by
  unfold isFn at h
  split at h
  · assumption
  · cases h
def chkM (Γ : Gm) : List Bool → List E → List Expr → Bool
  | [], [], [] => true
  | o :: os, e :: es, x :: xs => notStar x && chkE Γ false (lvO o) e x && chkM Γ os es xs
  | _, _, _ => false
def locB (Γ : Gm) (i : Nat) (x : Str) : Bool := decide (Γ.N[i]? = some x) && decide (Γ.sc.names.lookup x = some .local)
def chkPar (Γ : Gm) (is : List (Bool × Nat)) (ts vs : List Expr) : Bool := match swap Γ.sc ts vs with
  | some none => decide (is.length ≤ 8) && tgsB Γ (is.map (·.2)) ts
  | some (some ns) => (match is, ts with
    | [(_, i), (_, j)], [.Name x _, .Name y _] => decide (ns = [x, y]) && locB Γ i x && locB Γ j y && decide (i ≠ j)
    | [(_, i), (_, j), (_, l)], [.Name x _, .Name y _, .Name z _] => decide (ns = [x, y, z]) && locB Γ i x && locB Γ j y && locB Γ l z && decide (i ≠ j) && decide (i ≠ l) && decide (j ≠ l)
    | _, _ => false)
  | none => false
/-- x = e, at a level -/
def chkAsg (Γ : Gm) (lv : Lv) (i : Nat) (e : E) (st : Stmt) : Bool := match st with
  | .Assign [.Name x px] v _ => stB Γ i x && isFn Γ.sc && (match swB Γ.sc v x px with
    | false => chkE Γ false lv e v
    | true => locB Γ i x && (match v, e with
      | .ListComp el [⟨tx, it, cs, 0⟩] scope _, .comp own tg src ifs elt => blkC Γ.N Γ.sc scope (owOf Γ own) && tgInB own tg && tgB (Γ.blk scope (owOf Γ own)) tg tx && notSet it && chkSrc Γ false src tx it && chkIf (Γ.blk scope (owOf Γ own)) ifs cs && chkE (Γ.blk scope (owOf Γ own)) false .rep elt el
      | _, _ => false))
  | _ => false
def notSup : Expr → Bool
  | .Call (.Name _ _) [] [] _ => false
  | _ => true
theorem ab_sup {o : Expr} {n : Str} {env : Env} {w : Sem Value} (h : notSup o = true) : attributeBase o n env w = w := by
  unfold attributeBase
  split
  · cases h
  · rfl
mutual
def chkS (Γ : Gm) (lv : Lv) (s : St) (st : Stmt) : Bool := match s with
  | .asg i e => chkAsg Γ .rep i e st
  | .asgO i e => chkAsg Γ .fr i e st
  | .unp is e => (match st with | .Assign [.Tuple ts _ _] v _ => notComp v && !isTupE v && tgsB Γ is ts && chkE Γ false .rep e v | _ => false)
  | .par is es => (match st with | .Assign [.Tuple ts _ _] (.Tuple vs _ _) _ => isFn Γ.sc && chkM Γ (is.map (·.1)) es vs && chkPar Γ is ts vs | _ => false)
  | .setI i k e => (match st with | .Assign [.Subscript (.Name x _) kx _] v _ => nmB Γ i x && notSl kx && chkE Γ false .rep e v && chkE Γ false .pk k kx | _ => false)
  | .setK i k e => (match st with | .Assign [.Subscript (.Name x _) kx _] v _ => nmB Γ i x && chkE Γ false .rep e v && chkE Γ false .pk k kx | _ => false)
  | .aug i o e => (match st with | .AugAssign (.Name x _) op v _ => decide (op = opOf o) && (decide (o = .add) || decide (o = .mul)) && stB Γ i x && dbgOk x && chkE Γ false .pk e v | _ => false)
  | .app i e => (match st with | .Expr (.Call (.Attribute (.Name x _) n ap) [v] [] cp) _ => decide (n = ("append" : Str)) && decide (ap.endLine = cp.line) && nmB Γ i x && notStar v && chkE Γ false .rep e v | _ => false)
  | .exp e => (match st with | .Expr v _ => notComp v && chkE Γ false .pk e v | _ => false)
  | .ret e => (match st with | .Return (some v) _ => chkE Γ false lv e v | _ => false)
  | .retO i => (match st with | .Return (some (.Name x _)) _ => Lv.le .rep lv && nmB Γ i x | _ => false)
  | .retN => (match st with | .Return none _ => Lv.le .rep lv | _ => false)
  | .ite c a b => (match st with | .If t x y _ => chkE Γ true .pk c t && chkSs Γ lv a x && chkSs Γ lv b y | _ => false)
  | .for_ tg src body => (match st with | .For tx it b [] _ => tgB Γ tg tx && notSet it && chkSrc Γ true src tx it && chkSs Γ lv body b | _ => false)
  | .pass => (match st with | .Pass _ => true | _ => false)
  | .never => true
  | .frz _ s => chkS Γ lv s st
  | .cset a k e => (match st with | .Assign [.Subscript x kx _] v _ => notSl kx && chkE Γ false .rep a x && chkE Γ false .rep e v && chkE Γ false .pk k kx | _ => false)
  | .whl c body => (match st with | .While t b [] _ => chkE Γ true .pk c t && chkSs Γ lv body b | _ => false)
  | .rais k c es => (match Γ.fns[k]? with
    | some (.exc x c' n) => decide (c = c') && decide (n = es.length) && (match st with
      | .Raise (some (.Call (.Name y _) xs [] _)) none _ => decide (y = x) && glB Γ.sc x && decide (es.length = xs.length) && decide (es.length ≤ 1) && xs.all notStar && chkL Γ .rep es xs
      | _ => false)
    | _ => false)
  | .try_ xs body hs orelse => (match st with
    | .Try b es o [] _ => xs.all (fun c => Γ.xc.any fun p => p.2 == c) && !es.isEmpty && chkSs Γ lv body b && chkSs Γ lv orelse o && hdlsB Γ xs hs es
    | _ => false)
  | .lm m i es => (match st with | .Expr v _ => notComp v && lmB Γ m i es v | _ => false)
  | .lmTo m j i es => (match st with | .Assign [.Name x px] v _ => stB Γ j x && decide (i ≠ j) && notComp v && lmB Γ m i es v | _ => false)
  | .appLm m j i es => (match st with | .Expr (.Call (.Attribute (.Name x _) n ap) [v] [] cp) _ => decide (n = ("append" : Str)) && decide (ap.endLine = cp.line) && nmB Γ j x && notStar v && lmB Γ m i es v | _ => false)
  | .tapp e v => (match st with | .Expr (.Call (.Attribute a n ap) [w] [] cp) _ => decide (n = ("append" : Str)) && decide (ap.endLine = cp.line) && notSup a && notStar w && chkE Γ false .fr e a && chkE Γ false .rep v w | _ => false)
  | .swp _ _ _ _ _ => false
  | .fset k f a e => (match Γ.fns[k]? with
    | some (.hf f') => decide (f' = f) && (match st with | .Assign [.Attribute x n _] v _ => decide (n = f) && notComp v && chkE Γ false .rep a x && chkE Γ false .rep e v | _ => false)
    | _ => false)
  | .iadd i k e => (match Γ.fns[k]? with
    | some (.hi _) => (match st with | .AugAssign (.Name x _) op v _ => decide (op = .Add) && stB Γ i x && chkE Γ false .rep e v | _ => false)
    | _ => false)
def chkSs (Γ : Gm) (lv : Lv) (s : List St) (st : List Stmt) : Bool := match s with
  | [] => (match st with | [] => true | _ => false)
  | s :: ss => (match st with | st :: sts => chkS Γ lv s st && chkSs Γ lv ss sts | _ => false)
end
end MP

/-! MP: statements: what the lookers pass. -/
namespace MP
open PySem PySem.Spec PyProof.Rows L2
structure GoodS (C : Cn) (W : WX) (Γ : Gm) (fs : List FS) (X : Cx) : Prop extends Good C W Γ fs X where
  pas : PassesOwn (model X.prog X.w) X.A X.env X.xe
  stk : X.stack = X.env :: X.outer
  frm : X.env.frame = some X.env.locals
section
variable {C : Cn} {F0 : Hp} {L0 : List Addr} {H0 : Hp} {W : WX} {X : Cx} {lv lw : Lv} {a b c : Expr} {pos : Pos} {ma mb mc : Env' → Sto → R D} {Γ : Gm} {fs : List FS} {ms : Env' → Sto → R (List D)} {os : List Bool}
theorem sw_sub {v a b : Expr} {p : Pos} {l : Nat} {env : Env} : swapsWith v (some (.Subscript a b p)) l env = pure false := by cases v <;> rfl
theorem sub_of {x : Str} {p sp : Pos} {kx : Expr} {env : Env} (h : notSl kx = true) : ∀ v, assign (.Subscript (.Name x p) kx sp) env v = (do
      let ov ← holding [v] (eval (.Name x p) env)
      let iv ← holding [v, ov] (eval kx env)
      standAt sp
      holding [v, ov, iv] (setItem ov iv v)
      release [v, ov, iv] []) := fun v => by cases kx <;> first | rfl | cases h
theorem subA_of {A : Expr} {sp : Pos} {kx : Expr} {env : Env} (h : notSl kx = true) : ∀ v, assign (.Subscript A kx sp) env v = (do
      let ov ← holding [v] (eval A env)
      let iv ← holding [v, ov] (eval kx env)
      standAt sp
      holding [v, ov, iv] (setItem ov iv v)
      release [v, ov, iv] []) := fun v => by cases kx <;> first | rfl | cases h
theorem chkM_ok (g : Good C W Γ fs X) : ∀ {os : List Bool} {es : List E} {xs : List Expr}, chkM Γ os es xs = true → PA X xs (tL C W os fun ρ s => evEs (fnL fs) ρ es s)
  | [], [], [], _ => m_lnil
  | o :: os, e :: es, x :: xs, h => by
    simp only [chkM, Bool.and_eq_true] at h
    have ha := (chkE_ok e g h.1.2).1 rfl
    have := m_lcons (star_cons h.1.1) ha (chkM_ok g h.2)
    have e2 : (fun ρ s => evEs (fnL fs) ρ (e :: es) s) = fun ρ s => (evE (fnL fs) ρ e s).bind fun d s => (evEs (fnL fs) ρ es s).bind fun ds s => .ok (d :: ds) s := by
      funext ρ s
      cases e <;> first | rfl | (have := h.1.2; unfold chkE at this; cases this)
    rw [e2]
    exact this
  | [], [], _ :: _, h => by simp [chkM] at h
  | [], _ :: _, _, h => by simp [chkM] at h
  | _ :: _, [], _, h => by simp [chkM] at h
  | _ :: _, _ :: _, [], h => by simp [chkM] at h
theorem locB_of {i : Nat} {x : Str} (h : locB Γ i x = true) : Γ.N[i]? = some x ∧ Γ.sc.names.lookup x = some .local := by
  simpa [locB] using h
theorem chkPar_ok (g : Good C W Γ fs X) {is : List (Bool × Nat)} {ts vs : List Expr} {k k2 : Nat} {p p2 : Pos} (hf : isFn Γ.sc = true) (hv : PA X vs (tL C W (is.map (·.1)) ms)) (h : chkPar Γ is ts vs = true) :
    PS X (.Assign [.Tuple ts k p] (.Tuple vs k2 p2) pos) (tS C F0 L0 H0 W lv fun ρ s => RS.of (ms ρ s) ρ fun ds s => RS.of (R.of (setPar ρ is ds) s) ρ fun ρ' s => .nx ρ' s) := by
  unfold chkPar at h
  split at h
  · rename_i hs
    simp only [Bool.and_eq_true, decide_eq_true_eq] at h
    exact p_tup g (isFn_of hf) hs h.1 h.2 hv
  · rename_i ns hs
    split at h
    · simp only [Bool.and_eq_true, decide_eq_true_eq] at h
      obtain ⟨⟨⟨rfl, h1⟩, h2⟩, h3⟩ := h
      have hl : vs.length = 2 := by
        by_cases hh : vs.length = 2
        · exact hh
        · unfold swap at hs
          rw [if_pos (by simp [hh])] at hs
          cases hs
      match vs, hl with
      | [a, b], _ => exact p_two g (isFn_of hf) hs (locB_of h1).1 (locB_of h2).1 h3 (locB_of h1).2 (locB_of h2).2 hv
    · simp only [Bool.and_eq_true, decide_eq_true_eq] at h
      obtain ⟨⟨⟨⟨⟨⟨rfl, h1⟩, h2⟩, h3⟩, h4⟩, h5⟩, h6⟩ := h
      have hl : vs.length = 3 := by
        by_cases hh : vs.length = 3
        · exact hh
        · unfold swap at hs
          rw [if_pos (by simp [hh])] at hs
          cases hs
      match vs, hl with
      | [a, b, c], _ => exact p_three g (isFn_of hf) hs (locB_of h1).1 (locB_of h2).1 (locB_of h3).1 h4 h5 h6 (locB_of h1).2 (locB_of h2).2 (locB_of h3).2 hv
    · cases h
  · cases h
theorem Good.loc (g : Good C W Γ fs X) {i : Nat} {x : Str} (h : stB Γ i x = true) : X.N[i]? = some x ∧ Loc X.env.scope x ∧ (X.fn x = true ∨ X.env.scope.names.lookup x = some .local) := by
  simp only [stB, Bool.and_eq_true, Bool.or_eq_true, decide_eq_true_eq] at h
  refine ⟨by rw [g.hN]; exact h.1, ?_, ?_⟩
  · rw [g.sc]
    rcases h.2 with h | h
    · exact .inl h
    · exact .inr h.1
  · rw [g.sc]
    rcases h.2 with h | h
    · exact .inr h
    · exact .inl (g.own _ h.2)
/-- x = e by its looker: at rep or fr -/
theorem chkAsg_ok (g : Good C W Γ fs X) {i : Nat} {e : E} {st : Stmt} (hlv : lv = .rep ∨ lv = .fr) (h : chkAsg Γ lv i e st = true) : ∃ te, PS X st (tAsg te (gName i)) ∧ ∀ σ H Q, tE C W lv (fun ρ s => evE (fnL fs) ρ e s) σ H Q → te σ H Q := by
  unfold chkAsg at h
  split at h
  · rename_i x px v sp
    simp only [Bool.and_eq_true] at h
    obtain ⟨⟨h1, h2⟩, h3⟩ := h
    obtain ⟨q1, q2, q3⟩ := g.loc h1
    have hk : X.env.scope.kind = .function := by rw [g.sc]; exact isFn_of h2
    have hsw : swapsWith v (some (.Name x px)) sp.line X.env = pure (swB X.env.scope v x px) := swB_ok hk
    rw [g.sc] at hsw
    split at h3
    · rename_i hb
      rw [hb] at hsw
      exact ⟨_, ps_set g.nN q1 q2 ((chkE_ok e g h3).1 rfl) hsw q3, fun _ _ _ q => q⟩
    · rename_i hb
      rw [hb] at hsw
      simp only [Bool.and_eq_true] at h3
      obtain ⟨hl, h3⟩ := h3
      split at h3
      · rename_i el tx it cs scope p own tg src ifs elt
        simp only [Bool.and_eq_true] at h3
        obtain ⟨⟨⟨⟨⟨⟨a1, a2⟩, a3⟩, a4⟩, a5⟩, a6⟩, a7⟩ := h3
        have hb := blkOk_by a1
        refine ⟨_, ps_setLc g.calm g.nN q1 (by rw [g.sc]; exact (locB_of hl).2) hsw (chkSrc_ok src g a5) (by rw [g.hN, g.sc]; exact hb) (fun s H A cl fp => g.blk.tg a3) (fun s H A cl fp => chkIf_ok ifs g.blk a6) (fun s H A cl fp => (chkE_ok elt g.blk a7).1 rfl) (fs_of a4), fun σ H Q q => ?_⟩
        rw [ow_map]
        refine lc_read (tgIn_of a2) ?_
        rcases hlv with e | e
        · subst e; exact fr_of_rep q
        · subst e; exact q
      · cases h3
  · cases h
end
theorem whl_eq (fn : Nat → FS) (c : E) (body : List St) (ρ : Env') (s : Sto) : evS fn ρ (.whl c body) s = whlLoop (tst fun ρ s => evE fn ρ c s) (fun ρ s => evSs fn ρ body s) BIG ρ s := by
  rw [evS]
  rfl
section
variable {C : Cn} {F0 : Hp} {L0 : List Addr} {H0 : Hp} {W : WX} {X : Cx} {lv lw : Lv} {a b c : Expr} {pos : Pos} {ma mb mc : Env' → Sto → R D} {Γ : Gm} {fs : List FS} {ms : Env' → Sto → R (List D)} {os : List Bool}
/-- a method of an own list as a statement -/
theorem s_lm {m : LM} {i : Nat} {v : Expr} {pp : Pos} (h : PE X v (tLM C W i m ms)) (hn : notComp v = true) : PS X (.Expr v pp) (tS C F0 L0 H0 W lv fun ρ s => RS.of (R.of (lstOwn ρ i) s) ρ fun xs s => RS.of (ms ρ s) ρ fun ds s => RS.of (R.of (lmF m xs ds) s) ρ fun p s => .nx (setO ρ i (.lst p.2)) s) := by
  refine PS.imp (ps_expr h (sw_of hn)) fun D' σ H ⟨F, L, S, ρ, x, k, en, ow, q⟩ => ?_
  obtain ⟨xs, hi, q⟩ := q.got
  have hi := lstOwn_some hi
  refine ⟨F, L, S, ρ, xs, k, en, hi, (Sn.of x en ow (Grow.refl _ _) q).imp fun F1 L1 H1 S1 ds e1 k1 ⟨x1, en1, g1, q1⟩ => ?_⟩
  obtain ⟨p, hp, q1⟩ := q1.got
  refine ⟨p.1, p.2, hp, fun ad vs' v hs f l z rr rv => ?_⟩
  obtain ⟨a1, a2, a3, a4⟩ := own_list (vs := vs') (vs' := vs') (xs' := p.2) x1 k1 en1 ow hi hs f l z rr
  exact q1 _ _ _ _ a1 g1 a2 a3 a4
theorem s_lmTo {m : LM} {i j : Nat} {v : Expr} {x : Str} {px pp : Pos} (g : Good C W Γ fs X) (h : PE X v (tLM C W i m ms)) (hn : notComp v = true) (hx : stB Γ j x = true) (hij : i ≠ j) : PS X (.Assign [.Name x px] v pp) (tS C F0 L0 H0 W lv fun ρ s => RS.of (R.of (lstOwn ρ i) s) ρ fun xs s => RS.of (ms ρ s) ρ fun ds s => RS.of (R.of (lmF m xs ds) s) ρ fun p s => .nx (setI (setO ρ i (.lst p.2)) j p.1) s) := by
  obtain ⟨q1, q2, q3⟩ := g.loc hx
  refine PS.imp (ps_set g.nN q1 q2 h (sw_of hn) q3) fun D' σ H ⟨F, L, S, ρ, x, k, en, ow, q⟩ => ?_
  obtain ⟨xs, hi, q⟩ := q.got
  have hi := lstOwn_some hi
  refine ⟨F, L, S, ρ, xs, k, en, hi, (Sn.of x en ow (Grow.refl _ _) q).imp fun F1 L1 H1 S1 ds e1 k1 ⟨x1, en1, g1, q1⟩ => ?_⟩
  obtain ⟨p, hp, q1⟩ := q1.got
  refine ⟨p.1, p.2, hp, fun ad vs' v hs f l z rr rv => ?_⟩
  obtain ⟨a1, a2, a3, a4⟩ := own_list (vs := vs') (vs' := vs') (xs' := p.2) x1 k1 en1 ow hi hs f l z rr
  exact q1 _ _ _ _ a1 g1 a2 (a3.setI rv) a4.setI
theorem s_appLm {m : LM} {i j : Nat} {v : Expr} {x : Str} {p apos cpos pp : Pos} (hv : PE X (.Name x p) (tVar j)) (hbase : attributeBase (.Name x p) "append" X.env (eval (.Name x p) X.env) = eval (.Name x p) X.env) (hline : (apos.endLine == cpos.line) = true) (hs : starEach [v] X.env = [(false, eval v X.env)]) (h : PE X v (tLM C W i m ms)) :
    PS X (.Expr (.Call (.Attribute (.Name x p) "append" apos) [v] [] cpos) pp) (tS C F0 L0 H0 W lv fun ρ s => RS.of (R.of (lstOwn ρ j) s) ρ fun ys s => RS.of (R.of (lstOwn ρ i) s) ρ fun xs s => RS.of (ms ρ s) ρ fun ds s => RS.of (R.of (lmF m xs ds) s) ρ fun p s =>
      if i = j then .stuck else RS.of (R.of (dApp ys p.1) s) ρ fun o s => .nx (setO (setO ρ i (.lst p.2)) j o) s) := by
  refine PS.imp (ps_expr (pe_bm PySem.F.plainAttrs_list PySem.F.slot_list_append PySem.F.type_list_append mt_append hv (pa_cons h pa_nil hs) hbase (by rw [hs]; rfl) hline (by rw [hs]; rfl) rfl)) fun D' σ H ⟨F, L, S, ρ, x, k, en, ow, q⟩ => ?_
  obtain ⟨ys, hj, q⟩ := q.got
  obtain ⟨xs, hi, q⟩ := q.got
  have hi := lstOwn_some hi
  have hj := lstOwn_some hj
  obtain ⟨v0, hsl, r⟩ := en.own hj
  obtain ⟨p0, vs, rfl, h1, z, f, l, rr⟩ := r.lstAt
  refine ⟨_, hsl, .inl ⟨rfl, vs, SqL.of h1⟩, F, L, S, ρ, xs, k, en, hi, (Sn.of x en ow (Grow.refl _ _) q).imp fun F1 L1 H1 S1 ds e1 k1 ⟨x1, en1, g1, q1⟩ => ?_⟩
  obtain ⟨p, hp, q1⟩ := q1.got
  split at q1
  · exact False.elim q1
  · rename_i hij
    refine ⟨p.1, p.2, hp, fun ad vs' v hs f l z rr rv => ?_⟩
    obtain ⟨a1, a2, a3, a4⟩ := own_list (vs := vs') (vs' := vs') (xs' := p.2) x1 k1 en1 ow hi hs f l z rr
    obtain ⟨o, ho, q1⟩ := q1.got
    unfold dApp at ho
    split at ho
    · rename_i hl
      cases ho
      have hj' : (setO ρ i (.lst p.2))[j]? = some (.own (.lst ys)) := by unfold setO; rw [List.getElem?_set_ne hij]; exact hj
      obtain ⟨v', hsl', r'⟩ := a3.own hj'
      rw [hsl] at hsl'
      cases hsl'
      obtain ⟨p', ws, e, h1', z', f', l', rr'⟩ := r'.lstAt
      cases e
      have hlt : ws.length < sizeLine := by rw [sizeBIG, rr'.length]; exact hl
      obtain ⟨b1, b2, b3, b4⟩ := own_list (vs := ws) (vs' := ws ++ [v]) (xs' := ys ++ [p.1]) a1 a2 a3 a4 hj' hsl f' l' (by rw [List.length_append]; exact hlt) (rr'.snoc rv)
      exact ⟨_, ws, v, rfl, rfl, h1', hlt, q1 _ _ _ _ b1 g1 b2 b3 b4⟩
    · cases ho
theorem Ext.offF {F F1 : Hp} {L L1 : List Addr} {H H1 : Hp} {p : Addr} (e : Ext F L H F1 L1 H1) (f : F p = none) (h : H p ≠ none) : F1 p = none := by
  cases q : F1 p with
  | none => rfl
  | some o =>
    rcases e.nF p o q with z | z
    · rw [f] at z; cases z
    · exact absurd z h
theorem Ext.offL {F F1 : Hp} {L L1 : List Addr} {H H1 : Hp} {p : Addr} (e : Ext F L H F1 L1 H1) (f : p ∉ L) (h : H p ≠ none) : p ∉ L1 := fun z => (e.nL p z).elim f h
/-- e.append(v), e new -/
theorem s_tapp {o v : Expr} {apos cpos pp : Pos} (ho : PE X o (tE C W .fr ma)) (hv : PE X v (tE C W .rep mb)) (hbase : attributeBase o "append" X.env (eval o X.env) = eval o X.env) (hline : (apos.endLine == cpos.line) = true) (hs : starEach [v] X.env = [(false, eval v X.env)]) :
    PS X (.Expr (.Call (.Attribute o "append" apos) [v] [] cpos) pp) (tS C F0 L0 H0 W lv fun ρ s => RS.of (ma ρ s) ρ fun x s => match x with
      | .lst xs => if xs.length < BIG then RS.of (mb ρ s) ρ fun _ s => .nx ρ s else .stuck
      | _ => .stuck) := by
  refine PS.imp (ps_expr (pe_bm PySem.F.plainAttrs_list PySem.F.slot_list_append PySem.F.type_list_append mt_append ho (pa_cons hv pa_nil hs) hbase (by rw [hs]; rfl) hline (by rw [hs]; rfl) rfl)) fun D' σ H ⟨F, L, S, ρ, x, k, en, ow, q⟩ => ?_
  refine ⟨F, L, S, ρ, k, en, (Sn.of x en ow (Grow.refl _ _) q).imp fun F1 L1 H1 S1 d e1 k1 ⟨x1, en1, g1, q1⟩ w r => ?_⟩
  cases d with
  | lst xs =>
    dsimp only at q1
    split at q1
    · rename_i hl
      have r' : Fr C F1 L1 H H1 w (.lst xs) := by simpa [Vok, isFr] using r
      obtain ⟨p, vs, rfl, h1, z, f, l, rr⟩ := r'.lstAt
      have hn : H p = none := by cases r' with | lst n _ _ _ _ _ => exact n
      refine ⟨.inl ⟨rfl, vs, SqL.of h1⟩, F1, L1, S1, ρ, k1, en1, (Sn.of x1 en1 ow g1 q1).imp fun F2 L2 H2 S2 d2 e2 k2 ⟨x2, en2, g2, q2⟩ u ru => ?_⟩
      have h2 := e2.keep _ _ h1 l
      have f2 := e2.offF f (by rw [h1]; simp)
      have l2 := e2.offL l (by rw [h1]; simp)
      have n0 : H0 p = none := x.none_of hn
      have enU : EnvOk C F2 L2 (upd H2 p (.lst (vs ++ [u]))) ρ σ := ⟨en2.len, fun i zz y a1 a2 => by
          have qs := en2.slot i zz y a1 a2
          cases zz with
          | no => trivial
          | imm e => exact qs
          | own e =>
            obtain ⟨v', rfl, q'⟩ := qs
            obtain ⟨v3, e3, q3⟩ := en.own a1
            rw [a2] at e3
            cases e3
            obtain ⟨p3, o3, rfl, h3, _⟩ := q3.at_
            have ne : p3 ≠ p := ne_of_none h3 hn
            refine ⟨_, rfl, ?_⟩
            cases q' with
            | lst n a b c d e => exact .lst n (by rw [upd_ne ne]; exact a) b c d e
            | dic n a b c d e => exact .dic n (by rw [upd_ne ne]; exact a) b c d e, en2.sep⟩
      exact ⟨p, vs, u, rfl, rfl, h2, by rw [rr.length, sizeBIG]; exact hl, q2 _ _ _ _ (x2.updNew n0) g2 (k2.updNew f2 l2) enU ow⟩
    · exact False.elim q1
  | _ => exact False.elim q1
end
theorem tryC_ok {C : Cn} {W : WX} {Γ : Gm} {fs : List FS} {X : Cx} (g : Good C W Γ fs X) {W' : WX} {pn : List (Addr × Obj)} {xe : Value → Shared → Prop} (tk : Takes (X.tr pn xe) W') : Good C W' Γ fs (X.tr pn xe) := ⟨⟨g.b.hK, g.b.units, g.b.fns, g.b.blt, g.b.tk, g.b.prg, g.b.xc⟩, g.calm, g.nodup, g.hN, g.sc, g.own, tk⟩
mutual
theorem chkS_ok {C : Cn} {F0 : Hp} {L0 : List Addr} {H0 : Hp} {fs : List FS} : ∀ (s : St) {W : WX} {X : Cx} {Γ : Gm} {lv : Lv} {st : Stmt}, GoodS C W Γ fs X → chkS Γ lv s st = true → PS X st (tS C F0 L0 H0 W lv fun ρ s' => evS (fnL fs) ρ s s')
  | .asg i e, W, X, Γ, lv, st, g, h => by
    unfold chkS at h
    obtain ⟨te, h1, h2⟩ := chkAsg_ok g.toGood (.inl rfl) h
    exact s_asg h1 h2
  | .asgO i e, W, X, Γ, lv, st, g, h => by
    unfold chkS at h
    obtain ⟨te, h1, h2⟩ := chkAsg_ok g.toGood (.inr rfl) h
    exact s_asgO h1 h2
  | .unp is e, W, X, Γ, lv, st, g, h => by
    unfold chkS at h
    split at h
    · simp only [Bool.and_eq_true, Bool.not_eq_true'] at h
      obtain ⟨⟨⟨h1, h2⟩, h3⟩, h4⟩ := h
      rename_i ts k p v sp
      have hg : PG X (.Tuple ts k p) (gOf C.K (.tup is)) := g.tg (tg := .tup is) (e := .Tuple ts k p) (by exact h3)
      exact s_unp (ps_asg ((chkE_ok e g.toGood h4).1 rfl) hg (by unfold swapsWithSole; exact sw_of h1) (by cases v <;> first | rfl | cases h2)) fun _ _ _ q => q
    · cases h
  | .par is es, W, X, Γ, lv, st, g, h => by
    unfold chkS at h
    split at h
    · simp only [Bool.and_eq_true] at h
      exact chkPar_ok g.toGood h.1.1 (chkM_ok g.toGood h.1.2) h.2
    · cases h
  | .setI i k e, W, X, Γ, lv, st, g, h => by
    unfold chkS at h
    split at h
    · simp only [Bool.and_eq_true] at h
      obtain ⟨⟨⟨h1, h2⟩, h3⟩, h4⟩ := h
      exact s_setI (g.name h1) (by unfold swapsWithSole; exact sw_sub) (by rfl) ((chkE_ok e g.toGood h3).1 rfl) ((chkE_ok k g.toGood h4).1 rfl) (sub_of h2)
    · cases h
  | .setK i k e, W, X, Γ, lv, st, g, h => by
    unfold chkS at h
    split at h
    · simp only [Bool.and_eq_true] at h
      obtain ⟨⟨h1, h3⟩, h4⟩ := h
      exact s_setK (by have := g.u; omega) (g.name h1) sw_sub ((chkE_ok e g.toGood h3).1 rfl) ((chkE_ok k g.toGood h4).1 rfl)
    · cases h
  | .aug i o e, W, X, Γ, lv, st, g, h => by
    unfold chkS at h
    split at h
    · simp only [Bool.and_eq_true, Bool.or_eq_true, decide_eq_true_eq] at h
      obtain ⟨⟨⟨⟨rfl, h1⟩, h2⟩, h3⟩, h4⟩ := h
      obtain ⟨r, hr, hf⟩ := aug_ok (X := X) (C := C) o h1
      obtain ⟨q1, q2, q3⟩ := g.loc h2
      exact s_aug (ps_aug g.nN q1 q2 ((chkE_ok e g.toGood h4).1 rfl) hr q3) hf
    · cases h
  | .app i e, W, X, Γ, lv, st, g, h => by
    unfold chkS at h
    split at h
    · simp only [Bool.and_eq_true, decide_eq_true_eq] at h
      obtain ⟨⟨⟨⟨rfl, h1⟩, h2⟩, h3⟩, h4⟩ := h
      exact s_app (g.name h2) (ab_of rfl) (by simpa using h1) (star_one h3) ((chkE_ok e g.toGood h4).1 rfl)
    · cases h
  | .exp e, W, X, Γ, lv, st, g, h => by
    unfold chkS at h
    split at h
    · simp only [Bool.and_eq_true] at h
      exact s_exp (ps_expr ((chkE_ok e g.toGood h.2).1 rfl) (sw_of h.1)) fun _ _ _ q => q
    · cases h
  | .ret e, W, X, Γ, lv, st, g, h => by
    unfold chkS at h
    split at h
    · exact s_ret (ps_ret ((chkE_ok e g.toGood h).1 rfl)) fun _ _ _ q => q
    · cases h
  | .retO i, W, X, Γ, lv, st, g, h => by
    unfold chkS at h
    split at h
    · simp only [Bool.and_eq_true] at h
      exact s_retO (ps_ret (g.name h.2)) (by cases lv <;> simp_all [Lv.le])
    · cases h
  | .retN, W, X, Γ, lv, st, g, h => by
    unfold chkS at h
    split at h
    · exact s_retN ps_retN (by cases lv <;> simp_all [Lv.le])
    · cases h
  | .ite c a b, W, X, Γ, lv, st, g, h => by
    unfold chkS at h
    split at h
    · simp only [Bool.and_eq_true] at h
      have := s_if (F0 := F0) (L0 := L0) (H0 := H0) (lv := lv) (pos := ‹_›) ((chkE_ok c g.toGood h.1.1).2 rfl rfl) (chkSs_ok a g h.1.2) (chkSs_ok b g h.2)
      refine ps_cong this fun ρ s => ?_
      show RS.of (evE (fnL fs) ρ c s) ρ (fun x s => RS.of (R.of x.truth s) ρ fun t s => if t then evSs (fnL fs) ρ a s else evSs (fnL fs) ρ b s) = RS.of ((evE (fnL fs) ρ c s).bind fun x s => R.of x.truth s) ρ _
      cases evE (fnL fs) ρ c s <;> rfl
    · cases h
  | .for_ tg src body, W, X, Γ, lv, st, g, h => by
    unfold chkS at h
    split at h
    · simp only [Bool.and_eq_true] at h
      obtain ⟨⟨⟨h1, h2⟩, h3⟩, h4⟩ := h
      exact s_for g.K g.pas g.calm (chkSrc_ok src g.toGood h3) (g.tg h1) (chkSs_ok body g h4) (fs_of h2)
    · cases h
  | .pass, W, X, Γ, lv, st, g, h => by
    unfold chkS at h
    split at h
    · exact s_pass ps_pass
    · cases h
  | .never, W, X, Γ, lv, st, g, h => s_never
  | .frz i s, W, X, Γ, lv, st, g, h => by
    unfold chkS at h
    exact s_frz (chkS_ok s g h)
  | .fset k f a e, W, X, Γ, lv, st, g, h => by
    unfold chkS at h
    split at h
    · rename_i f' hk
      simp only [Bool.and_eq_true, decide_eq_true_eq] at h
      obtain ⟨rfl, h⟩ := h
      split at h
      · simp only [Bool.and_eq_true, decide_eq_true_eq] at h
        obtain ⟨⟨⟨rfl, h1⟩, h2⟩, h3⟩ := h
        exact s_fset (g.b.fns.at hk) ((chkE_ok a g.toGood h2).1 rfl) ((chkE_ok e g.toGood h3).1 rfl) (sw_of h1)
      · cases h
    · cases h
  | .iadd i k e, W, X, Γ, lv, st, g, h => by
    unfold chkS at h
    split at h
    · rename_i fr hk
      split at h
      · simp only [Bool.and_eq_true, decide_eq_true_eq] at h
        obtain ⟨⟨rfl, h2⟩, h3⟩ := h
        obtain ⟨q1, q2, q3⟩ := g.loc h2
        exact s_iadd g.tk g.nN q1 q2 q3 (g.b.fns.at hk) ((chkE_ok e g.toGood h3).1 rfl)
      · cases h
    · cases h
  | .cset a k e, W, X, Γ, lv, st, g, h => by
    unfold chkS at h
    split at h
    · simp only [Bool.and_eq_true] at h
      obtain ⟨⟨⟨h1, h2⟩, h3⟩, h4⟩ := h
      exact s_cset ((chkE_ok a g.toGood h2).1 rfl) (by unfold swapsWithSole; exact sw_sub) (by rfl) ((chkE_ok e g.toGood h3).1 rfl) ((chkE_ok k g.toGood h4).1 rfl) (subA_of h1)
    · cases h
  | .whl c body, W, X, Γ, lv, st, g, h => by
    unfold chkS at h
    split at h
    · simp only [Bool.and_eq_true] at h
      have h1 := (chkE_ok c g.toGood h.1).2 rfl rfl
      have h2 := chkSs_ok (F0 := F0) (L0 := L0) (H0 := H0) body g h.2
      exact ps_cong (s_whl (n := BIG) g.pas h1 h2) (whl_eq _ c body)
    · cases h
  | .rais k c es, W, X, Γ, lv, st, g, h => by
    unfold chkS at h
    split at h
    · rename_i x c' n hk
      simp only [Bool.and_eq_true, decide_eq_true_eq] at h
      obtain ⟨⟨rfl, rfl⟩, h⟩ := h
      have hx : ExcAt C (Cx.b6 X) x c es.length := g.b.fns.at hk
      split at h
      · rename_i y p xs cp p2
        simp only [Bool.and_eq_true, decide_eq_true_eq] at h
        obtain ⟨⟨⟨⟨⟨rfl, h1⟩, h2⟩, h3⟩, h4⟩, h5⟩ := h
        match es, xs, h2, h3, h4, h5, hx with
        | [], [], _, _, _, _, hx => exact s_rais0 g.calm g.tk hx (g.gl h1) (gl_dbg h1)
        | [e], [z], _, _, h4, h5, hx =>
          simp only [List.all_cons, List.all_nil, Bool.and_true] at h4
          exact s_rais1 g.calm g.tk hx (g.gl h1) (gl_dbg h1) (star_one h4) ((chkL_ok [e] g.toGood h5).pa (by simp [h4]))
        | _ :: _ :: _, _, _, h3, _, _, _ => simp at h3
        | [], _ :: _, h2, _, _, _, _ => simp at h2
        | [_], [], h2, _, _, _, _ => simp at h2
        | [_], _ :: _ :: _, h2, _, _, _, _ => simp at h2
      · cases h
    · cases h
  | .try_ xs body hs orelse, W, X, Γ, lv, st, g, h => by
    unfold chkS at h
    split at h
    · rename_i b es o p
      simp only [Bool.and_eq_true] at h
      obtain ⟨⟨⟨⟨h1, h2⟩, h3⟩, h4⟩, h5⟩ := h
      have hxs : ∀ c, xs.contains c = true → ∃ n, (n, c) ∈ Γ.xc := fun c hc => by
        have := List.all_eq_true.mp h1 c (by simpa using hc)
        obtain ⟨q, hq, e⟩ := List.any_eq_true.mp this
        exact ⟨q.1, by rw [← eq_of_beq e]; exact hq⟩
      obtain ⟨l, a1, a2, a3⟩ := hdls_ok (F0 := F0) (L0 := L0) (H0 := H0) (lv := lv) g.toGood hxs h5
      have hx : ∀ c, xs.contains c = true → ∀ h ∈ hs, PySem.W.exmOne X.K (.ref (C.cx c)) (.ref (C.cx h.c)) = some (subX h.c c) := fun c hc h hh => by
        obtain ⟨n, hn⟩ := hxs c hc
        obtain ⟨m, hm⟩ := a3 h hh
        exact g.b.xc.xm _ hn _ hm
      cases es with
      | nil => cases h2
      | cons e0 es =>
        exact s_try (chkSs_ok orelse g h4) g.stk g.frm g.nN g.tk (fun W' pn xe tk pas => chkSs_ok body ⟨tryC_ok g.toGood tk, pas, g.stk, g.frm⟩ h3) a1 a2 hx
    · cases h
  | .lm m i es, W, X, Γ, lv, st, g, h => by
    unfold chkS at h
    split at h
    · simp only [Bool.and_eq_true] at h
      exact s_lm (lmB_ok g.toGood h.2) h.1
    · cases h
  | .lmTo m j i es, W, X, Γ, lv, st, g, h => by
    unfold chkS at h
    split at h
    · simp only [Bool.and_eq_true, decide_eq_true_eq] at h
      obtain ⟨⟨⟨h1, h2⟩, h3⟩, h4⟩ := h
      exact s_lmTo g.toGood (lmB_ok g.toGood h4) h3 h1 h2
    · cases h
  | .appLm m j i es, W, X, Γ, lv, st, g, h => by
    unfold chkS at h
    split at h
    · simp only [Bool.and_eq_true, decide_eq_true_eq] at h
      obtain ⟨⟨⟨⟨rfl, h1⟩, h2⟩, h3⟩, h4⟩ := h
      exact s_appLm (g.name h2) (ab_of rfl) (by simpa using h1) (star_one h3) (lmB_ok g.toGood h4)
    · cases h
  | .tapp e v, W, X, Γ, lv, st, g, h => by
    unfold chkS at h
    split at h
    · simp only [Bool.and_eq_true, decide_eq_true_eq] at h
      obtain ⟨⟨⟨⟨⟨rfl, h1⟩, h2⟩, h3⟩, h4⟩, h5⟩ := h
      exact s_tapp ((chkE_ok e g.toGood h4).1 rfl) ((chkE_ok v g.toGood h5).1 rfl) (ab_sup h2) (by simpa using h1) (star_one h3)
    · cases h
  | .swp _ _ _ _ _, W, X, Γ, lv, st, g, h => by unfold chkS at h; cases h
theorem chkSs_ok {C : Cn} {F0 : Hp} {L0 : List Addr} {H0 : Hp} {fs : List FS} : ∀ (s : List St) {W : WX} {X : Cx} {Γ : Gm} {lv : Lv} {st : List Stmt}, GoodS C W Γ fs X → chkSs Γ lv s st = true → PSs X st (tS C F0 L0 H0 W lv fun ρ s' => evSs (fnL fs) ρ s s')
  | [], W, X, Γ, lv, st, g, h => by
    unfold chkSs at h
    split at h
    · exact m_nil
    · cases h
  | s :: ss, W, X, Γ, lv, st, g, h => by
    unfold chkSs at h
    split at h
    · simp only [Bool.and_eq_true] at h
      exact m_cons (chkS_ok s g h.1) (chkSs_ok ss g h.2)
    · cases h
end
end MP

/-! MP: a def by its body's looker. -/
namespace MP
open PySem PySem.Spec PyProof.Rows L2
/-- the program around the defs, as the top left it -/
structure Wd where
  C : Cn
  P : Program
  w : World
  mg : Str → Option Value
  base : Heap
structure WdOk (D : Wd) (tk : List (Str × List Str)) (xc : List (Str × Nat)) : Prop where
  blt : ∀ x ∈ bltNames, D.mg x = none
  tk : ∀ p ∈ tk, TupK D.C.K D.mg p.1 p.2
  prg : PrgOk D.C
  xc : XcOk D.C D.C.K D.mg xc
abbrev FnKx (D : Wd) (k : Nat) (n : Nat) (fr : Bool) (f : FS) (a : Addr) (fd : FuncData) (ps : List Str) : Prop := FnOk D.P D.w D.C.K D.mg D.base (L2.CX D.P D.w) k a fd ps (spD D.C n fr f)
def FIK (D : Wd) (k : Nat) (i : FI) (f : FS) : Prop := match i with
  | .fn x n fr => ∃ (a : Addr) (fd : FuncData) (ps : List Str), FnKx D k n fr f a fd ps ∧ D.mg x = some (.ref a) ∧ PySem.W.keepIn D.C.K (.ref a) = true ∧ Binds D.C.K fd ps []
  | .hk h => ∀ A, Room k A → HookOk D.C ⟨D.P, D.w, D.C.K, D.mg, D.base, A⟩ h f
  | .exc x c n => ∀ A, Room k A → ExcAt D.C (D.P, D.w, D.C.K, D.mg, D.base, A) x c n
  | .hs h => ∀ A, Room k A → HookOkS D.C ⟨D.P, D.w, D.C.K, D.mg, D.base, A⟩ h f
  | .ht h => ∀ A, Room k A → HookOkT D.C ⟨D.P, D.w, D.C.K, D.mg, D.base, A⟩ h f
  | .hm m n fr => ∃ (a : Addr) (fd : FuncData) (ps : List Str), FnKx D k (n + 1) fr f a fd ps ∧ Cls D.C.K (D.C.cI 0) ∧ Meth D.C.K (D.C.cI 0) m a ∧ Binds D.C.K fd ps []
  | .hf g => Cls D.C.K (D.C.cI 0) ∧ NoAttr D.C.K (D.C.cI 0) g
  | .hi fr => ∃ (a : Addr) (fd : FuncData) (ps : List Str), FnKx D k 2 fr f a fd ps ∧ PySem.W.selfFirst D.C.K (D.C.cI 0) = true ∧ PySem.W.findIn D.C.K (.ref (D.C.cI 0)) "__iadd__" = some (some (.ref a)) ∧ PySem.W.isFn D.C.K (.ref a) = true ∧ Binds D.C.K fd ps []
theorem FIK.mono {D : Wd} {j k : Nat} {i : FI} {f : FS} (h : FIK D j i f) (le : j ≤ k) : FIK D k i f := by
  cases i with
  | fn x n fr =>
    obtain ⟨a, fd, ps, h1, h2⟩ := h
    exact ⟨a, fd, ps, FnOk.mono h1 le, h2⟩
  | hk h' => exact fun A r => h A (r.mono le)
  | exc x c n => exact fun A r => h A (r.mono le)
  | hs h' => exact fun A r => h A (r.mono le)
  | ht h' => exact fun A r => h A (r.mono le)
  | hm m n fr =>
    obtain ⟨a, fd, ps, h1, h2⟩ := h
    exact ⟨a, fd, ps, FnOk.mono h1 le, h2⟩
  | hf g => exact h
  | hi fr =>
    obtain ⟨a, fd, ps, h1, h2⟩ := h
    exact ⟨a, fd, ps, FnOk.mono h1 le, h2⟩
inductive FIsK (D : Wd) (k : Nat) : List FI → List FS → Prop
  | nil : FIsK D k [] []
  | cons {i : FI} {f : FS} {is : List FI} {fs : List FS} {j : Nat} : FIK D j i f → j ≤ k → FIsK D k is fs → FIsK D k (i :: is) (f :: fs)
theorem FIsK.at {D : Wd} {k : Nat} {is : List FI} {fs : List FS} (h : FIsK D k is fs) {A : Around} (r : Room k A) : FIs D.C ⟨D.P, D.w, D.C.K, D.mg, D.base, A⟩ is fs := by
  induction h with
  | nil => exact .nil
  | @cons i f is fs j h le t ih =>
    refine .cons ?_ ih
    cases i with
    | fn x n fr =>
      obtain ⟨a, fd, ps, h1, h2⟩ := h
      exact ⟨j, a, fd, ps, h1, r.mono le, h2⟩
    | hk h' => exact h A (r.mono le)
    | exc x c n => exact h A (r.mono le)
    | hs h' => exact h A (r.mono le)
    | ht h' => exact h A (r.mono le)
    | hm m n fr =>
      obtain ⟨a, fd, ps, h1, h2⟩ := h
      exact ⟨⟨j, a, fd, ps, h1, r.mono le, h2⟩⟩
    | hf g => exact ⟨h.1, h.2⟩
    | hi fr =>
      obtain ⟨a, fd, ps, h1, h2⟩ := h
      exact ⟨⟨j, a, fd, ps, h1, r.mono le, h2⟩⟩
theorem env_start {C : Cn} {F : Hp} {L : List Addr} {H : Hp} {N : List Str} {vs : List V} {ds : List D} (r : RepAll C F L vs ds) (hl : vs.length ≤ N.length) : EnvOk C F L H (startE N.length ds) (L2.start N vs) where
  len := by simp only [startE, L2.start, List.length_append, List.length_map, List.length_replicate, r.length]
  slot := fun i z x h1 h2 => by
    unfold startE at h1
    unfold L2.start at h2
    by_cases hi : i < ds.length
    · have hv : i < vs.length := by rw [r.length]; exact hi
      rw [List.getElem?_append_left (by simpa using hi)] at h1
      rw [List.getElem?_append_left (by simpa using hv)] at h2
      simp only [List.getElem?_map, List.getElem?_eq_getElem hi, List.getElem?_eq_getElem hv, Option.map_some, Option.some.injEq] at h1 h2
      subst h1 h2
      obtain ⟨v, e1, e2⟩ := r.get (List.getElem?_eq_getElem hi)
      rw [List.getElem?_eq_getElem hv] at e1
      cases e1
      exact ⟨_, rfl, e2⟩
    · rw [List.getElem?_append_right (by simpa using hi)] at h1
      rw [List.getElem?_replicate] at h1
      split at h1 <;> cases h1
      trivial
  sep := fun j k e e' w h1 h2 h3 h4 => by
    unfold startE at h1
    by_cases hi : j < ds.length
    · rw [List.getElem?_append_left (by simpa using hi)] at h1
      simp only [List.getElem?_map, List.getElem?_eq_getElem hi, Option.map_some, Option.some.injEq] at h1
      cases h1
    · rw [List.getElem?_append_right (by simpa using hi), List.getElem?_replicate] at h1
      split at h1 <;> cases h1
theorem own_start {H : Hp} {N : List Str} {vs : List V} {ds : List D} : OwnNew H (startE N.length ds) (L2.start N vs) := fun j e v h1 h2 => by
  unfold startE at h1
  by_cases hi : j < ds.length
  · rw [List.getElem?_append_left (by simpa using hi)] at h1
    simp only [List.getElem?_map, List.getElem?_eq_getElem hi, Option.map_some, Option.some.injEq] at h1
    cases h1
  · rw [List.getElem?_append_right (by simpa using hi), List.getElem?_replicate] at h1
    split at h1 <;> cases h1
def gmOf (N : List Str) (sc : Scope) (fns : List FI) (tk : List (Str × List Str)) (xc : List (Str × Nat)) : Gm := ⟨N, sc, N, fns, tk, xc⟩
theorem good_cx {D : Wd} {tk : List (Str × List Str)} {xc : List (Str × Nat)} {k : Nat} {N : List Str} {sc : Scope} {is : List FI} {fs : List FS} {qual : Str} {f : Addr} {cd : Value} {A : Around} {outer : List Env} {s : Shared} {H : Hp} {E : XK} (wd : WdOk D tk xc) (hn : N.Nodup) (fi : FIsK D k is fs) (r : Room k (A.deeper (envOfC qual sc s.heap.objs.size f cd))) :
    GoodS D.C (fun c d _ H' => E c d H') (gmOf N sc is tk xc) fs (cxOf (L2.CX D.P D.w) D.P D.w D.C.K D.mg D.base N qual sc f cd A outer s H E) where
  b := ⟨rfl, by have := r.un; show (A.deeper _).units + 65 < _; omega, fi.at r, wd.blt, wd.tk, wd.prg, wd.xc⟩
  calm := rfl
  nodup := hn
  hN := rfl
  sc := rfl
  own := fun _ _ => rfl
  tk := takes_of rfl rfl rfl rfl
  pas := passes_of rfl
  stk := rfl
  frm := rfl
/-- a def by its looker -/
theorem def_ok {D : Wd} {tk : List (Str × List Str)} {xc : List (Str × Nat)} {k : Nat} {N ps : List Str} {sc : Scope} {is : List FI} {fs : List FS} {x qual : Str} {params : Arguments} {body : List Stmt} {kws : List (Str × V)} {f : Addr} {fd : FuncData} {fr : Bool} {ss : List St} (wd : WdOk D tk xc)
    (F : FunD D.C.K x qual params body sc [] kws f fd) (S : FnScope N ps sc) (fi : FIsK D k is fs) (h : chkSs (gmOf N sc is tk xc) (lvOf fr) ss body = true) : FnKx D (k + 1) ps.length fr (evDef (fnL fs) N.length ss) f fd ps := by
  refine F.ok S (fun vs H Q E h => h.1) fun cdv A outer s H vs Q E hr hsp => ?_
  obtain ⟨hl, F0, L, S0, ds, k0, r, q⟩ := hsp
  have g := good_cx (E := E) (H := H) (outer := outer) (s := s) (cd := cdv) (f := f) (qual := qual) (A := A) wd S.nd fi hr
  refine ⟨_, chkSs_ok (F0 := F0) (L0 := L) (H0 := H) ss g h, F0, L, S0, startE N.length ds, Ext.refl _ _ _, k0, env_start r ?_, own_start, ?_⟩
  · have := congrArg List.length S.pre
    rw [List.length_take] at this
    omega
  · unfold evDef at q
    show Sn _ _ _ _ _ _ _ _ _ (evSs (fnL fs) (startE N.length ds) ss S0)
    cases e : evSs (fnL fs) (startE N.length ds) ss S0 with
    | nx ρ' S' =>
      rw [e] at q
      exact fun F' L' H' σ' x1 g1 k1 en ow => q F' L' H' x1 k1 .non (by cases fr <;> first | exact Vok.re rfl .non | exact Rep.non)
    | ret d S' =>
      rw [e] at q
      exact fun F' L' H' v x1 k1 rv => q F' L' H' x1 k1 v rv
    | exc y ρ' S' =>
      rw [e] at q
      exact fun F' L' H' dx σ' x1 g1 k1 o en ow => q F' L' H' dx x1 k1 o
    | stuck => rw [e] at q; exact q
/-- a def that is never reached -/
theorem stuck_ok {D : Wd} {k : Nat} {N ps : List Str} {sc : Scope} {x qual : Str} {params : Arguments} {body : List Stmt} {kws : List (Str × V)} {f : Addr} {fd : FuncData} {fr : Bool} (F : FunD D.C.K x qual params body sc [] kws f fd) (S : FnScope N ps sc) : FnKx D (k + 1) ps.length fr (fun _ _ => .stuck) f fd ps :=
  F.ok S (fun vs H Q E h => h.1) fun cdv A outer s H vs Q E hr ⟨hl, F0, L, S0, ds, k0, r, q⟩ => False.elim q
end MP

/-! MP: forms of a def's own choice. -/
namespace MP
open PySem PySem.Spec PyProof.Rows L2
/-- a written global -/
def hkG (x : Str) : Hook := ⟨fun sc ex => match ex with | .Name y _ => if decide (y = x) && glB sc y then some [] else none | _ => none, .pk, .rep⟩
def constF (d : D) : FS := fun _ s => .ok d s
/-- C(a, ..) -/
def hkNew (x : Str) (n : Nat) : Hook := ⟨fun sc ex => match ex with | .Call (.Name y _) args [] _ => if decide (y = x) && glB sc y && decide (args.length = n) && args.all notStar then some args else none | _ => none, .rep, .rep⟩
/-- a.p -/
def hkProp (p : Str) : Hook := ⟨fun _ ex => match ex with | .Attribute a n _ => if decide (n = p) && notCall0 a then some [a] else none | _ => none, .pk, .rep⟩
/-- a.m(b, ..) -/
def hkMeth (m : Str) (n : Nat) (lv out : Lv) : Hook := ⟨fun _ ex => match ex with | .Call (.Attribute a q ap) args [] cp => if decide (q = m) && notCall0 a && decide (ap.endLine = cp.line) && decide (args.length = n) && args.all notStar then some (a :: args) else none | _ => none, lv, out⟩
theorem hkG_ok {C : Cn} {B : Bs} {x : Str} {d : D} {v : V} {u : Value} (hm : B.mg x = some u) (r : RelV v u) (hr : ∀ F L, Rep C F L v d) : HookOk C B (hkG x) (constF d) := ⟨fun X W ex es ms hb hK hc hu tk hmt pl => by
  subst hb
  simp only [hkG] at hmt
  split at hmt
  · split at hmt
    · rename_i h
      simp only [Bool.and_eq_true, decide_eq_true_eq] at h
      obtain ⟨rfl, h⟩ := h
      cases hmt
      cases pl
      simp only [glB, Bool.and_eq_true, decide_eq_true_eq] at h
      exact m_glob (pe_glob h.1 hm r (dbg_of h.2).1) hr
    · cases hmt
  · cases hmt⟩
end MP

/-! MP: a program made. -/
namespace MP
open PySem PySem.Spec PyProof.Rows L2
/-- __init__: two checks, a test, three fields -/
structure IniE where
  e1 : E
  e2 : E
  c : E
  v1 : E
  v2 : E
  v3 : E
  k : Nat
  cn : Nat
def chkIni (Γ : Gm) (i : IniE) (body : List Stmt) : Bool := match body with
  | [.Expr x1 _, .Expr x2 _, .If x3 [.Raise (some (.Call (.Name ry _) [] [] _)) none _] [] _, .Assign [.Attribute (.Name s1 _) f1 _] y1 _, .Assign [.Attribute (.Name s2 _) f2 _] y2 _, .Assign [.Attribute (.Name s3 _) f3 _] y3 _] =>
    (match Γ.fns[i.k]? with | some (.exc x c n) => decide (c = i.cn) && decide (n = 0) && decide (x = ry) && glB Γ.sc ry | _ => false) && notComp x1 && notComp x2 && chkE Γ false .pk i.e1 x1 && chkE Γ false .pk i.e2 x2 && chkE Γ true .pk i.c x3 && nmB Γ 0 s1 && nmB Γ 0 s2 && nmB Γ 0 s3 &&
      decide (f1 = ("marks" : Str)) && decide (f2 = ("rows" : Str)) && decide (f3 = ("shown" : Str)) && notComp y1 && notComp y2 && notComp y3 && chkE Γ false .rep i.v1 y1 && chkE Γ false .rep i.v2 y2 && chkE Γ false .rep i.v3 y3
  | _ => false
def prgOf (h r c : D) (s : Sto) : R D := match h, r, c with
  | .str h, .tup xs, .str c => .ok (.prg h xs c) s
  | _, _, _ => .stuck
/-- what is made of the arguments -/
def iniF (fn : Nat → FS) (i : IniE) : FS := fun ds s => match ds with
  | [a, b, c] => (evE fn [.no, .imm a, .imm b, .imm c] i.e1 s).bind fun _ s => (evE fn [.no, .imm a, .imm b, .imm c] i.e2 s).bind fun _ s => (tst (fun ρ s => evE fn ρ i.c s) [.no, .imm a, .imm b, .imm c] s).bind fun t s =>
      if t then .exc ⟨i.cn, none⟩ s else ((evE fn [.no, .imm a, .imm b, .imm c] i.v1 s).bind fun h s => (evE fn [.no, .imm a, .imm b, .imm c] i.v2 s).bind fun r s => (evE fn [.no, .imm a, .imm b, .imm c] i.v3 s).bind fun z s => prgOf h r z s).nox
  | _ => .stuck
def spIni (C : Cn) (fn : Nat → FS) (i : IniE) : Sp := fun vs H Q E => ∃ (p dx : Addr) (us : List V) (F : Hp) (L : List Addr) (H1 : Hp) (S : Sto) (ds : List D), vs = .ref p :: us ∧ us.length = 3 ∧ H1 p = none ∧ H1 dx = none ∧ dx ≠ p ∧ H = upd (upd H1 dx (.own p)) p (.ins C.cP dx []) ∧ Ok C F L H1 S ∧ RepAll C F L us ds ∧
  match iniF fn i ds S with
  | .ok d S' => ∀ F' L' H', Ext F L H1 F' L' H' → Ok C F' L' H' S' → Rep C F' L' (.ref p) d → Q .non H'
  | .exc x S' => ∀ F' L' H' dx', Ext F L H1 F' L' H' → Ok C F' L' H' S' → XOk C F' L' H' x dx' → E (.ref (C.cx x.c)) dx' H'
  | .stuck => False
theorem kn1 : ¬ (("marks" : Str) = "rows") := by decide +kernel
theorem kn2 : ¬ (("marks" : Str) = "shown") := by decide +kernel
theorem kn3 : ¬ (("rows" : Str) = "shown") := by decide +kernel
theorem putF3 (x y z : V) : putF ("shown" : Str) z (putF ("rows" : Str) y (putF ("marks" : Str) x [])) = [(("marks" : Str), x), (("rows" : Str), y), (("shown" : Str), z)] := by
  show putF ("shown" : Str) z (if ("marks" : Str) = "rows" then _ else (("marks" : Str), x) :: putF ("rows" : Str) y []) = _
  rw [if_neg kn1]
  show (if ("marks" : Str) = "shown" then _ else (("marks" : Str), x) :: (if ("rows" : Str) = "shown" then _ else (("rows" : Str), y) :: putF ("shown" : Str) z [])) = _
  rw [if_neg kn2, if_neg kn3]
  rfl
theorem Ext.nF' {F F1 : Hp} {L L1 : List Addr} {H H1 : Hp} {p : Addr} (e : Ext F L H F1 L1 H1) (h : H p = none) (f : F p = none) : True := trivial
theorem putF_len (f : Str) (v : V) : ∀ fs : List (Str × V), (putF f v fs).length ≤ fs.length + 1
  | [] => Nat.le_refl _
  | (g, x) :: r => by
    unfold putF
    split
    · simp
    · simpa using putF_len f v r
theorem R.nox_inv {α : Type} {r : R α} {a : α} {s : Sto} (h : r.nox = .ok a s) : r = .ok a s := by
  cases r with
  | ok b t => exact h
  | exc x t => cases h
  | stuck => cases h
theorem ini_rais {C : Cn} {W : WX} {Γ : Gm} {fs : List FS} {X : Cx} {F0 : Hp} {L0 : List Addr} {H0 : Hp} {k cn : Nat} {ry : Str} {p p2 pos : Pos} {lv : Lv} (g : Good C W Γ fs X) (h : (match Γ.fns[k]? with | some (.exc x c n) => decide (c = cn) && decide (n = 0) && decide (x = ry) && glB Γ.sc ry | _ => false) = true) :
    PSs X [.Raise (some (.Call (.Name ry p) [] [] pos)) none p2] (tS C F0 L0 H0 W lv fun ρ s => .exc ⟨cn, none⟩ ρ s) := by
  split at h
  · rename_i x c n e
    simp only [Bool.and_eq_true, decide_eq_true_eq] at h
    obtain ⟨⟨⟨rfl, rfl⟩, rfl⟩, h4⟩ := h
    exact m_cons (s_rais0 g.calm g.tk (g.b.fns.at e) (g.gl h4) (gl_dbg h4)) m_nil
  · cases h
theorem ini_ok {D : Wd} {tk : List (Str × List Str)} {xc : List (Str × Nat)} {k : Nat} {sc : Scope} {is : List FI} {fs : List FS} {x qual : Str} {params : Arguments} {body : List Stmt} {kws : List (Str × V)} {f : Addr} {fd : FuncData} {i : IniE} (wd : WdOk D tk xc) {ps : List Str} (hps : ps.length = 4)
    (F : FunD D.C.K x qual params body sc [] kws f fd) (S : FnScope ps ps sc) (fi : FIsK D k is fs) (h : chkIni (gmOf ps sc is tk xc) i body = true) : FnOk D.P D.w D.C.K D.mg D.base (L2.CX D.P D.w) (k + 1) f fd ps (spIni D.C (fnL fs) i) := by
  refine F.ok S (fun vs H Q E h => ?_) fun cdv A outer s H vs Q E hr hsp => ?_
  · obtain ⟨p, dx, us, _, _, _, _, _, rfl, hu, _⟩ := h
    simp [hu, hps]
  obtain ⟨p, dx, us, F0, L, H1, S0, ds, rfl, hu, np, ndx, hne, rfl, k0, r, q⟩ := hsp
  have g := good_cx (E := E) (H := upd (upd H1 dx (.own p)) p (.ins D.C.cP dx [])) (outer := outer) (s := s) (cd := cdv) (f := f) (qual := qual) (A := A) wd S.nd fi hr
  unfold chkIni at h
  split at h
  · simp only [Bool.and_eq_true, decide_eq_true_eq] at h
    obtain ⟨⟨⟨⟨⟨⟨⟨⟨⟨⟨⟨⟨⟨⟨⟨⟨⟨a0, a1⟩, a2⟩, a3⟩, a4⟩, a5⟩, a6⟩, a7⟩, a8⟩, rfl⟩, rfl⟩, rfl⟩, a9⟩, a10⟩, a11⟩, a12⟩, a13⟩, a14⟩ := h
    have e1 := (chkE_ok i.e1 g.toGood a3).1 rfl
    have e2 := (chkE_ok i.e2 g.toGood a4).1 rfl
    have e3 := (chkE_ok i.c g.toGood a5).2 rfl rfl
    have y1 := (chkE_ok i.v1 g.toGood a12).1 rfl
    have y2 := (chkE_ok i.v2 g.toGood a13).1 rfl
    have y3 := (chkE_ok i.v3 g.toGood a14).1 rfl
    have ra := fun p p2 pos => ini_rais (p := p) (p2 := p2) (pos := pos) (lv := .rep) (F0 := F0) (L0 := L) (H0 := H1) g.toGood a0
    refine ⟨_, pss_cons (ps_expr e1 (sw_of a1)) (pss_cons (ps_expr e2 (sw_of a2)) (pss_cons (ps_if e3 (ra _ _ _) pss_nil) (pss_cons (ps_fld (g.name a6) y1 (sw_of a9)) (pss_cons (ps_fld (g.name a7) y2 (sw_of a10)) (pss_one (ps_fld (g.name a8) y3 (sw_of a11))))))), ?_⟩
    have rl := r.length
    rw [hu] at rl
    match us, ds, hu, rl, r with
    | [u1, u2, u3], [d1, d2, d3], _, _, .cons r1 (.cons r2 (.cons r3 .nil)) =>
    have H0p : (upd (upd H1 dx (.own p)) p (.ins D.C.cP dx [])) p = some (.ins D.C.cP dx []) := upd_same
    have nF : F0 p = none := k0.notF np
    have nL : p ∉ L := k0.notL np
    have np2 : (upd H1 dx (.own p)) p = none := by rw [upd_ne hne.symm]; exact np
    have x0 : Ext F0 L H1 F0 L (upd (upd H1 dx (.own p)) p (.ins D.C.cP dx [])) := ((Ext.refl _ _ _).laid ndx).laid np2
    have k00 := (k0.laid (o := .own p) ndx).laid (o := .ins D.C.cP dx []) np2
    have en0 : ∀ H2, EnvOk D.C F0 L H2 [.no, .imm d1, .imm d2, .imm d3] (L2.start ps [.ref p, u1, u2, u3]) := fun H2 => by
      have e : L2.start ps [V.ref p, u1, u2, u3] = [some (V.ref p), some u1, some u2, some u3] := by unfold L2.start; simp [hps]
      rw [e]
      refine ⟨rfl, fun i z x h1 h2 => ?_, fun j k e e' w h1 h2 h3 h4 => ?_⟩
      · match i, h1, h2 with
        | 0, h1, h2 => cases h1; trivial
        | 1, h1, h2 => cases h1; cases h2; exact ⟨_, rfl, r1⟩
        | 2, h1, h2 => cases h1; cases h2; exact ⟨_, rfl, r2⟩
        | 3, h1, h2 => cases h1; cases h2; exact ⟨_, rfl, r3⟩
      · match j, h1 with
        | 0, h1 => cases h1
        | 1, h1 => cases h1
        | 2, h1 => cases h1
        | 3, h1 => cases h1
    unfold iniF at q
    dsimp only at q
    refine ⟨F0, L, S0, _, k00, en0 _, ?_⟩
    show Rn _ _ _ _ _ _ (evE _ _ _ _) _
    cases E1 : evE (fnL fs) [.no, .imm d1, .imm d2, .imm d3] i.e1 S0 with
    | stuck => rw [E1] at q; exact False.elim q
    | exc y s1 => rw [E1] at q; exact fun F' L' H' dx' x1 k1 o => q F' L' H' dx' (x0.trans x1) k1 o
    | ok w1 s1 =>
    rw [E1] at q
    simp only [R.bind_ok] at q
    intro F2 M2 H2 x2 k2 v2 _
    have x2' := x0.trans x2
    refine ⟨F2, M2, s1, _, k2, (en0 _).ext x2, ?_⟩
    show Rn _ _ _ _ _ _ (evE _ _ _ _) _
    cases E2 : evE (fnL fs) [.no, .imm d1, .imm d2, .imm d3] i.e2 s1 with
    | stuck => rw [E2] at q; exact False.elim q
    | exc y s2 => rw [E2] at q; exact fun F' L' H' dx' x1 k1 o => q F' L' H' dx' (x2'.trans x1) k1 o
    | ok w2 s2 =>
    rw [E2] at q
    simp only [R.bind_ok] at q
    intro F3 L3 H3 x3 k3 v3 _
    have x3' := x2.trans x3
    refine ⟨F3, L3, s2, _, k3, (en0 _).ext x3', ?_⟩
    cases E3 : tst (fun ρ s => evE (fnL fs) ρ i.c s) [.no, .imm d1, .imm d2, .imm d3] s2 with
    | stuck => rw [E3] at q; exact False.elim q
    | exc y s3 => rw [E3] at q; exact fun F' L' H' dx' x1 k1 o => q F' L' H' dx' (x0.trans (x3'.trans x1)) k1 o
    | ok w3 s3 =>
    rw [E3] at q
    simp only [R.bind_ok] at q
    intro F4 L4 H4 x4 k4
    have x4' := x3'.trans x4
    cases w3 with
    | true =>
      rw [if_pos rfl] at q
      refine iteT ⟨F4, L4, s3, _, x0.trans x4', k4, (en0 _).ext x4', ?_, ?_⟩
      · intro j e w h1 h2
        match j, h1 with
        | 0, h1 => cases h1
        | 1, h1 => cases h1
        | 2, h1 => cases h1
        | 3, h1 => cases h1
      · exact fun F' L' H' dx' σ' x1 g1 k1 o en ow => q F' L' H' dx' x1 k1 o
    | false =>
    rw [if_neg (by decide)] at q
    refine iteF ⟨F4, L4, s3, _, k4, (en0 _).ext x4', ?_⟩
    show Rn _ _ _ _ _ _ (evE _ _ _ _) _
    cases ev : ((evE (fnL fs) [.no, .imm d1, .imm d2, .imm d3] i.v1 s3).bind fun h s => (evE (fnL fs) [.no, .imm d1, .imm d2, .imm d3] i.v2 s).bind fun r s => (evE (fnL fs) [.no, .imm d1, .imm d2, .imm d3] i.v3 s).bind fun z s => prgOf h r z s) with
    | stuck => rw [ev] at q; exact False.elim q
    | exc y s4 => rw [ev] at q; exact False.elim q
    | ok d S' =>
    rw [ev] at q
    obtain ⟨w4, s4, E4, ev⟩ := R.bind_ok_inv ev
    obtain ⟨w5, s5, E5, ev⟩ := R.bind_ok_inv ev
    obtain ⟨w6, s6, E6, ev⟩ := R.bind_ok_inv ev
    rw [E4]
    intro F5 L5 H5 x5 k5 v5 r5
    have x5' := x4'.trans x5
    have r5 : Rep D.C F5 L5 v5 w4 := r5
    have h5 := x5'.keep p _ H0p nL
    have f5 := x5'.offF nF (by rw [H0p]; simp)
    have l5 := x5'.offL nL (by rw [H0p]; simp)
    have b5 := x0.trans x5'
    have c5 := g.b.prg.no
    have sp : (L2.start ps [V.ref p, u1, u2, u3])[0]? = some (some (V.ref p)) := by unfold L2.start; simp
    refine ⟨_, sp, p, D.C.cP, dx, _, rfl, h5, g.b.prg.cls, c5 .marks, by decide, ?_⟩
    have b6 : Ext F0 L H1 F5 L5 (upd H5 p (.ins D.C.cP dx (putF "marks" v5 []))) := b5.updNew np
    have k6 : Ok D.C F5 L5 (upd H5 p (.ins D.C.cP dx (putF "marks" v5 []))) s4 := k5.updNew f5 l5
    refine ⟨F5, L5, s4, _, k6, (en0 H1).ext b6, ?_⟩
    show Rn _ _ _ _ _ _ (evE _ _ _ _) _
    rw [E5]
    intro F7 L7 H7 x7 k7 v7 r7
    have r7 : Rep D.C F7 L7 v7 w5 := r7
    have h7 := x7.keep p _ upd_same l5
    have f7 := x7.offF f5 (by rw [upd_same]; simp)
    have l7 := x7.offL l5 (by rw [upd_same]; simp)
    have b7 := b6.trans x7
    refine ⟨_, sp, p, D.C.cP, dx, _, rfl, h7, g.b.prg.cls, c5 .rows, Nat.lt_of_le_of_lt (putF_len _ _ _) (by decide), ?_⟩
    have b8 : Ext F0 L H1 F7 L7 (upd H7 p (.ins D.C.cP dx (putF "rows" v7 (putF "marks" v5 [])))) := b7.updNew np
    have k8 : Ok D.C F7 L7 (upd H7 p (.ins D.C.cP dx (putF "rows" v7 (putF "marks" v5 [])))) s5 := k7.updNew f7 l7
    refine ⟨F7, L7, s5, _, k8, (en0 H1).ext b8, ?_⟩
    show Rn _ _ _ _ _ _ (evE _ _ _ _) _
    rw [E6]
    intro F9 L9 H9 x9 k9 v9 r9
    have r9 : Rep D.C F9 L9 v9 w6 := r9
    have h9 := x9.keep p _ upd_same l7
    have f9 := x9.offF f7 (by rw [upd_same]; simp)
    have l9 := x9.offL l7 (by rw [upd_same]; simp)
    have b9 := b8.trans x9
    refine ⟨_, sp, p, D.C.cP, dx, _, rfl, h9, g.b.prg.cls, c5 .shown, Nat.lt_of_le_of_lt (Nat.le_trans (putF_len _ _ _) (Nat.succ_le_succ (putF_len _ _ _))) (by decide), ?_⟩
    have b10 : Ext F0 L H1 F9 L9 (upd H9 p (.ins D.C.cP dx (putF "shown" v9 (putF "rows" v7 (putF "marks" v5 []))))) := b9.updNew np
    have k10 : Ok D.C F9 L9 (upd H9 p (.ins D.C.cP dx (putF "shown" v9 (putF "rows" v7 (putF "marks" v5 []))))) s6 := k9.updNew f9 l9
    rw [putF3] at b10 k10 ⊢
    have r5' := r5.up (x7.ff.trans x9.ff) (x7.ll.trans x9.ll)
    have r7' := r7.up x9.ff x9.ll
    unfold prgOf at ev
    split at ev
    · cases ev
      cases r5' with
      | str q1 z5 =>
      cases r7' with
      | @tup ta _ _ hs z7 rr =>
      cases r9 with
      | str q3 z9 =>
      exact q _ _ _ (b10.freeze np f9) (k10.freeze upd_same f9 l9) (.prg upd_same ((Sub.fz f9).sqT hs) z7 (rr.up (Sub.fz f9) (List.prefix_refl _)) z5 z9)
    · cases ev
  · cases h
theorem hkNew_some {x : Str} {n : Nat} {sc : Scope} {ex : Expr} {es : List Expr} (h : (hkNew x n).mt sc ex = some es) : ∃ p pos, ex = .Call (.Name x p) es [] pos ∧ glB sc x = true ∧ es.length = n ∧ es.all notStar = true := by
  simp only [hkNew] at h
  split at h
  · split at h
    · rename_i hh
      simp only [Bool.and_eq_true, decide_eq_true_eq] at hh
      obtain ⟨⟨⟨rfl, h1⟩, h2⟩, h3⟩ := hh
      cases h
      exact ⟨_, _, rfl, h1, h2, h3⟩
    · cases h
  · cases h
theorem run_makeS {X : Cx} {CX : CXT} {k : Nat} {f C : Addr} {fd : FuncData} {ps : List Str} {sp : Sp} {E : L2.St → XK} {pins : List (Addr × Obj)} {σ : L2.St} {H : Hp} {s : Shared} {Q : VK} {us : List Value} {vs : List V} (M : Mk X.K C f) (F : FnOk X.prog X.w X.K X.mg X.base CX k f fd ps sp) (hr : Room (k + 1) X.A) (hb : Binds X.K fd ps [])
    (hx : PassesAt CX X σ (E σ)) (I : Inv X pins σ H s) (r : Vals vs us)
    (h : ∀ x dx, H x = none → H dx = none → dx ≠ x → sp (.ref x :: vs) (upd (upd H dx (.own x)) x (.ins C dx [])) (fun v H2 => v = .non ∧ Q (.ref x) H2) (E σ)) :
    wpAny (model X.prog X.w) X.A (call (.ref C) us) (EP X pins σ Q) X.xe s := by
  have hq := h (s.heap.objs.size + 1) s.heap.objs.size (I.hok.fresh (Nat.le_succ _)) (I.hok.fresh (Nat.le_refl _)) (Nat.ne_of_lt (Nat.lt_succ_self _))
  have I2 := Inv.made (C := C) I
  have r2 : Vals (V.ref (s.heap.objs.size + 1) :: vs) (Value.ref (s.heap.objs.size + 1) :: us) := .cons rfl r
  have hl : (Value.ref (s.heap.objs.size + 1) :: us).length = ps.length := by
    have e := r2.length
    rw [F.len _ _ _ _ hq] at e
    exact e.symm
  have b := hb _ (Value.ref (s.heap.objs.size + 1) :: us) I2.kIn (by rw [List.append_nil]; exact hl)
  rw [List.append_nil] at b
  refine wpAny_call (make_map (f := f) I.kIn M.makes M.init (beq_iff_eq.mp M.fn) (codeAny_mono (F.run _ X.stack _ _ ⟨Value.ref (s.heap.objs.size + 1) :: us, []⟩ (Value.ref (s.heap.objs.size + 1) :: us) _ _ (E σ) (hr.make C us [])
    (I2.env0.make C us []) b r2 hq) fun r s' hq' => ?_))
  cases r with
  | error e => exact hx pins _ _ e s' I2 hq'
  | ok fl =>
    cases fl with
    | ret u =>
      obtain ⟨v, H', I3, rv, ev, q3⟩ := I2.after hq'
      subst ev
      exact ⟨rv, ⟨V.ref (s.heap.objs.size + 1), H', I3, rfl, q3⟩⟩
    | next => exact False.elim hq'
    | brk => exact False.elim hq'
    | cont => exact False.elim hq'
def tMakeS (C : Addr) (sp : Sp) (E : L2.St → XK) (t : TA) : TE := fun σ H Q => t σ H fun vs H1 => ∀ x dx, H1 x = none → H1 dx = none → dx ≠ x →
  sp (.ref x :: vs) (upd (upd H1 dx (.own x)) x (.ins C dx [])) (fun v H2 => v = .non ∧ Q (.ref x) H2) (E σ)
theorem pe_makeS {X : Cx} {CX : CXT} {k : Nat} {f C : Addr} {fd : FuncData} {ps : List Str} {sp : Sp} {E : L2.St → XK} {x : Str} {p pos : Pos} {e : Expr} {es : List Expr} {t : TA} (M : Mk X.K C f) (F : FnOk X.prog X.w X.K X.mg X.base CX k f fd ps sp) (hr : Room (k + 1) X.A) (hg : Gl X x) (hm : X.mg x = some (.ref C)) (hb : Binds X.K fd ps []) (hx : ∀ σ, PassesAt CX X σ (E σ))
    (ha : PA X (e :: es) t) (hdb : (x == ("__debug__" : Str)) = false) (he : starEach (e :: es) X.env = (false, eval e X.env) :: starEach es X.env) (hpl : (backTo pos (starEach es X.env)).any (·.1) = false) :
    PE X (.Call (.Name x p) (e :: es) [] pos) (tMakeS C sp E t) := by
  refine ⟨fun pins s σ H Q I h => ?_⟩
  refine wpAny_Call_Name_kw (ld_glob I hg hm ?_ hdb)
  refine PySem.W.callWith_K (h₀ := X.base) I.ok.mod.kin M.kp (thn (ha.run pos pins s σ H _ I h) fun us s1 ⟨vs, H1, I1, r, q⟩ => ⟨I1.kIn, ?_⟩) he hpl
  exact run_makeS M F hr hb (hx σ) I1 r q
/-- C(a, b, c) -/
theorem new_ok {D : Wd} {k : Nat} {x : Str} {f : Addr} {fd : FuncData} {ps : List Str} {fn : Nat → FS} {i : IniE} (M : Mk D.C.K D.C.cP f) (hm : D.mg x = some (.ref D.C.cP)) (hb : Binds D.C.K fd ps [])
    (F : FnOk D.P D.w D.C.K D.mg D.base (L2.CX D.P D.w) k f fd ps (spIni D.C fn i)) : FIK D (k + 1) (.hk (hkNew x 3)) (iniF fn i) := fun A hr => ⟨fun X W ex es ms hB hK hc hu tk hmt pl => by
  have e1 : X.prog = D.P := congrArg Bs.prog hB
  have e2 : X.w = D.w := congrArg Bs.w hB
  have e3 : X.K = D.C.K := congrArg Bs.K hB
  have e4 : X.mg = D.mg := congrArg Bs.mg hB
  have e5 : X.base = D.base := congrArg Bs.base hB
  have e6 : X.A = A := congrArg Bs.A hB
  obtain ⟨p, pos, rfl, h1, h2, h3⟩ := hkNew_some hmt
  have hg := h1
  simp only [glB, Bool.and_eq_true, decide_eq_true_eq] at hg
  have hp := pl.pa h3
  have hl := pl.len
  match es, h2, h3, hp, hl with
  | z :: zs, h2, h3, hp, hl =>
      simp only [List.all_cons, Bool.and_eq_true] at h3
      have F' : FnOk X.prog X.w X.K X.mg X.base (L2.CX X.prog X.w) k f fd ps (spIni D.C fn i) := by rw [e1, e2, e3, e4, e5]; exact F
      have mk := pe_makeS (X := X) (pos := pos) (p := p) (E := WE W) (by rw [e3]; exact M) F' (by rw [e6]; exact hr) hg.1 (by rw [e4]; exact hm) (by rw [e3]; exact hb) (fun σ => passAt tk σ) hp (gl_dbg h1) (star_cons h3.1) (star_none h3.2)
      refine PE.imp mk fun σ H Q ⟨F1, L, S, ρ, kk, en, q⟩ => ⟨F1, L, S, ρ, kk, en, ?_⟩
      dsimp only at q
      cases e : ms ρ S with
      | exc y s => rw [e] at q; exact q
      | stuck => rw [e] at q; exact q
      | ok ds S' =>
        rw [e] at q
        intro F2 M2 H2 x2 k2 vs r2 a dx na ndx ne
        simp only [R.bind_ok] at q
        have l3 := hl _ _ _ _ e
        refine ⟨a, dx, vs, F2, M2, H2, S', ds, rfl, ?_, na, ndx, ne, rfl, k2, r2, ?_⟩
        · rw [r2.length, l3]
          exact h2
        cases ev : iniF fn i ds S' with
        | exc y s =>
          rw [ev] at q
          exact fun F' L' H' dx' x3 k3 o => q F' L' H' dx' (x2.trans x3) k3 o
        | stuck => rw [ev] at q; exact False.elim q
        | ok d S2 =>
          rw [ev] at q
          exact fun F' L' H' x3 k3 rr => ⟨rfl, q F' L' H' (x2.trans x3) k3 _ rr⟩
  ⟩
end MP

/-! X4: what the head tells of the own exceptions. -/
namespace MP
open PySem PySem.Spec PyProof.Rows L2 NdefX
def excClsB (K : PySem.W.Frag) (C : Addr) : Bool := match K.lookup C with
  | some ⟨.type t, _, .cls cd, sl⟩ => (match cd.mro with
    | .ref C' :: bm => (match sl.toList with
      | [_, _, _, _, some (.builtin n), _] => decide (t = "type") && decide (C' = C) && decide (n = "ValueError.__new__") && !cd.hasDel && cd.hasDict && PySem.HandSPX.refsVE bm
      | _ => false)
    | _ => false)
  | _ => false
theorem excClsB_ok {K : PySem.W.Frag} {C : Addr} (h : excClsB K C = true) : ∃ nm q N bs bm sn sub ab col dd k0 k1 k2 k3 k5, K.lookup C = some (excClassObj nm q C N bs bm true sn sub ab col dd k0 k1 k2 k3 k5 "ValueError.__new__") ∧ PySem.HandSPX.refsVE bm = true := by
  unfold excClsB at h
  split at h
  · rename_i t dd cd sl ho
    split at h
    · rename_i C' bm hm
      split at h
      · rename_i k0 k1 k2 k3 n k5 hs
        simp only [Bool.and_eq_true, decide_eq_true_eq, Bool.not_eq_true'] at h
        obtain ⟨⟨⟨⟨⟨rfl, rfl⟩, rfl⟩, hdel⟩, hdd⟩, ht⟩ := h
        obtain ⟨nm, bs, mro, ns, qn, hd, sn, sub, ab, col, del⟩ := cd
        dsimp only at hm hdel hdd
        subst hm hdel hdd
        have hsl : sl = #[k0, k1, k2, k3, some (.builtin "ValueError.__new__"), k5] := by
          obtain ⟨l⟩ := sl
          simp only at hs
          rw [hs]
        subst hsl
        exact ⟨nm, qn, ns, bs, bm, sn, sub, ab, col, dd, k0, k1, k2, k3, k5, ho, ht⟩
      · cases h
    · cases h
  · cases h
def nfB (K : PySem.W.Frag) (fI : Addr) : Option NF := match K.lookup fI with
  | some ⟨_, _, .func ⟨nm, ql, par, .stmts b, sc, g, cl, .none, kV, doc, pm, an, .ref c, ct, bi⟩, _⟩ => if g = mainGlobals ∧ bi = builtinsNs then some ⟨nm, ql, par, b, sc, cl, c⟩ else none
  | _ => none
theorem nfB_ok {K : PySem.W.Frag} {fI : Addr} {F : NF} (h : nfB K fI = some F) : ∃ oc od kV doc pm an ct osl, K.lookup fI = some ⟨oc, od, .func (PySem.W.fnX F.name F.qual F.params F.body F.scope F.cl .none kV doc pm an (.ref F.c) ct), osl⟩ := by
  unfold nfB at h
  split at h
  · rename_i e
    split at h
    · rename_i hh
      obtain ⟨rfl, rfl⟩ := hh
      cases h
      exact ⟨_, _, _, _, _, _, _, _, e⟩
    · cases h
  · cases h
def codeFB (file : Str) (K : PySem.W.Frag) (c : Addr) : Bool := match K.lookup c with
  | some ⟨_, _, .fields vs, _⟩ => (match (vs[2]? : Option Value) with
    | some (.str f _) => (file == f)
    | _ => false)
  | _ => false
def cellB (K : PySem.W.Frag) (C cc : Addr) : Bool := match K.lookup cc with
  | some ⟨_, _, .cell (some (.ref C')), _⟩ => decide (C' = C)
  | _ => false
/-- self alone -/
def par1 (a : Arguments) : Bool := match a with
  | ⟨[], [x], none, [], [], none, []⟩ => decide (x.arg = kself)
  | _ => false
def par2 (a : Arguments) : Option Str := match a with
  | ⟨[], [x, y], none, [], [], none, []⟩ => if x.arg = kself then some y.arg else none
  | _ => none
def body0 : List Stmt → Bool
  | [.Expr (.Call (.Attribute (.Call (.Name s _) [] [] _) i p2) [.Constant (.str _) _ _] [] p4) _] => decide (s = ("super" : Str)) && decide (i = ("__init__" : Str)) && (p2.endLine == p4.line)
  | _ => false
def body1 (f y : Str) : List Stmt → Bool
  | [.Expr (.Call (.Attribute (.Call (.Name s _) [] [] _) i p2) [.Constant (.str _) _ _] [] p4) _, .Assign [.Attribute (.Name a _) f' _] (.Name y' _) _] => decide (s = ("super" : Str)) && decide (i = ("__init__" : Str)) && (p2.endLine == p4.line) && decide (a = kself) && decide (f' = f) && decide (y' = y)
  | _ => false
/-- of every own exception's class -/
def excGB (file : Str) (K : PySem.W.Frag) (C : Addr) (F : NF) (cc : Addr) : Bool :=
  excClsB K C && (decide (PySem.W.findIn K (.ref C) "__setattr__" = some (some (.builtin "object.__setattr__"))) && (decide (PySem.W.subIn K (.ref C) (.type "BaseException") = some true) && (decide (PySem.W.typeIn K (.ref C) = some (.type "type")) && (PySem.W.keepIn K (.ref C) &&
  (decide (PySem.W.findIn K (.ref C) "__init__" = some (some (.ref (He.ma K C "__init__")))) && (decide (PySem.W.typeIn K (.ref (He.ma K C "__init__")) = some (.type "function")) && (PySem.W.codeIn K (.ref F.c) F.qual && (codeFB file K F.c && (cellB K C cc && ((PySem.W.clsIn K C).isSome &&
  (decide (PySem.W.mroIn K C (.ref C) = some true) && (decide (PySem.W.subIn K (.ref C) (.type "ValueError") = some true) && (decide (PySem.W.nsIn K mainGlobals "super" = some none) && (decide (PySem.W.nsIn K cStatics "thirdparty.any" = some none) && (decide (PySem.W.ks_superIn K C C "__init__" = some (some (.builtin "ValueError.__init__"))) &&
  (decide (F.scope.names.lookup ("super" : Str) = some .globalImplicit) && (decide (F.scope.names.lookup ("__class__" : Str) = some .free) && decide (F.scope.names.lookup ("self" : Str) = some .local))))))))))))))))))
def bodyB (K : PySem.W.Frag) (C : Addr) (n : Nat) (f : Str) (F : NF) : Bool :=
  if n = 0 then par1 F.params && (nscB [kself, kcl] [kself] [kcl] F.scope && body0 F.body)
  else match par2 F.params with
    | some y => decide (n = 1) && (decide (y = f) && (nscB [kself, y, kcl] [kself, y] [kcl] F.scope && (body1 f y F.body && (decide (PySem.W.findIn K (.ref C) f = some none) && (!(y == ("__debug__" : Str)) && !(y == ("__classdict__" : Str)))))))
    | none => false
def excB (file : Str) (K : PySem.W.Frag) (C : Addr) (n : Nat) (f : Str) : Bool := match nfB K (He.ma K C "__init__") with
  | some F => (match F.cl with
    | [(k, cc)] => decide (k = kcl) && (excGB file K C F cc && bodyB K C n f F)
    | _ => false)
  | none => false
theorem bind1 {nm ql : Str} {x : Arg} {b : List Stmt} {sc : Scope} {cl : List (Str × Addr)} {kV doc pm cd ct : Value} {an : Option Addr} (hx : x.arg = kself) (us : List Value) (hu : us.length = 1) : bindArgs (PySem.W.fnX nm ql ⟨[], [x], none, [], [], none, []⟩ b sc cl .none kV doc pm an cd ct) ⟨us, []⟩ = pure ([kself].zip us) := by
  obtain ⟨_, _, _⟩ := x
  cases hx
  match us, hu with
  | [_], _ => rfl
theorem bind2 {nm ql : Str} {x y : Arg} {c : Nat} {b : List Stmt} {sc : Scope} {cl : List (Str × Addr)} {kV doc pm cd ct : Value} {an : Option Addr} (hx : x.arg = kself) (hy : y.arg = xfN c) (us : List Value) (hu : us.length = 2) : bindArgs (PySem.W.fnX nm ql ⟨[], [x, y], none, [], [], none, []⟩ b sc cl .none kV doc pm an cd ct) ⟨us, []⟩ = pure ([kself, xfN c].zip us) := by
  obtain ⟨_, _, _⟩ := x
  obtain ⟨_, _, _⟩ := y
  cases hx
  dsimp only at hy
  subst hy
  unfold xfN
  split
  · match us, hu with
    | [_, _], _ => rfl
  · match us, hu with
    | [_, _], _ => rfl
theorem par1_ok {a : Arguments} (h : par1 a = true) : ∃ x : Arg, a = ⟨[], [x], none, [], [], none, []⟩ ∧ x.arg = kself := by
  unfold par1 at h
  split at h
  · exact ⟨_, rfl, of_decide_eq_true h⟩
  · cases h
theorem par2_ok {a : Arguments} {y : Str} (h : par2 a = some y) : ∃ x z : Arg, a = ⟨[], [x, z], none, [], [], none, []⟩ ∧ x.arg = kself ∧ z.arg = y := by
  unfold par2 at h
  split at h
  · split at h
    · rename_i hh
      cases h
      exact ⟨_, _, rfl, hh, rfl⟩
    · cases h
  · cases h
theorem cellB_ok {K : PySem.W.Frag} {C cc : Addr} (h : cellB K C cc = true) : ∃ cl cld csl, K.lookup cc = some ⟨cl, cld, .cell (some (.ref C)), csl⟩ := by
  unfold cellB at h
  split at h
  · rename_i e
    obtain rfl := of_decide_eq_true h
    exact ⟨_, _, _, e⟩
  · cases h
theorem codeFB_ok {file : Str} {K : PySem.W.Frag} {c : Addr} (h : codeFB file K c = true) : ∃ ccl cdd vs ccs f tf, K.lookup c = some ⟨ccl, cdd, .fields vs, ccs⟩ ∧ vs[2]? = some (.str f tf) ∧ (file == f) = true := by
  unfold codeFB at h
  split at h
  · rename_i e
    split at h
    · rename_i e2
      exact ⟨_, _, _, _, _, _, e, e2, h⟩
    · cases h
  · cases h
theorem body0_ok {b : List Stmt} (h : body0 b = true) : ∃ p0 p1 p2 p3 p4 p5 z j, b = [.Expr (.Call (.Attribute (.Call (.Name "super" p0) [] [] p1) "__init__" p2) [.Constant (.str z) j p3] [] p4) p5] ∧ (p2.endLine == p4.line) = true := by
  unfold body0 at h
  split at h
  · simp only [Bool.and_eq_true, decide_eq_true_eq] at h
    obtain ⟨⟨rfl, rfl⟩, h3⟩ := h
    exact ⟨_, _, _, _, _, _, _, _, rfl, h3⟩
  · cases h
theorem body1_ok {f y : Str} {b : List Stmt} (h : body1 f y b = true) : ∃ p0 p1 p2 p3 p4 p5 p6 p7 p8 p9 z j, b = [.Expr (.Call (.Attribute (.Call (.Name "super" p0) [] [] p1) "__init__" p2) [.Constant (.str z) j p3] [] p4) p5, .Assign [.Attribute (.Name kself p6) f p7] (.Name y p8) p9] ∧ (p2.endLine == p4.line) = true := by
  unfold body1 at h
  split at h
  · simp only [Bool.and_eq_true, decide_eq_true_eq] at h
    obtain ⟨⟨⟨⟨⟨rfl, rfl⟩, h3⟩, rfl⟩, rfl⟩, rfl⟩ := h
    exact ⟨_, _, _, _, _, _, _, _, _, _, _, _, rfl, h3⟩
  · cases h
theorem excK_of {P : Program} {K : PySem.W.Frag} {mg : Str → Option Value} {C : Addr} {F : NF} {cc : Addr} {ps : List Str} (hn : nfB K (He.ma K C "__init__") = some F) (hc : F.cl = [(kcl, cc)]) (h : excGB P.main.file K C F cc = true) (hm : mg "super" = none) (htop : (P.main.scope.names.lookup ("super" : Str)).isSome = false)
    (hb : ∀ (kV doc pm : Value) (an : Option Addr) (ct : Value) (us : List Value), us.length = ps.length → bindArgs (PySem.W.fnX F.name F.qual F.params F.body F.scope F.cl .none kV doc pm an (.ref F.c) ct) ⟨us, []⟩ = pure (ps.zip us))
    (hd : ∃ ar, (F.params.posonlyargs ++ F.params.args).head? = some ar ∧ ar.arg = kself) (hs : nscB (ps ++ [kcl]) ps [kcl] F.scope = true) (p0 : ps[0]? = some kself) : ExcK P K mg C (He.ma K C "__init__") F cc ps := by
  unfold excGB at h
  simp only [Bool.and_eq_true, decide_eq_true_eq] at h
  obtain ⟨h1, h2, h3, h4, h5, h6, h7, h8, h9, h10, h11, h12, h13, h14, h15, h16, h17, h18, h19⟩ := h
  exact ⟨⟨excClsB_ok h1, h2, h3, h4, h5⟩, h6, h7, nfB_ok hn, hb, h8, hc, codeFB_ok h9, cellB_ok h10, h11, h12, h13, hm, htop, h15, h16, hd, nscope_by hs, p0, h17, h18, h19⟩
/-- the class by its looker -/
theorem exc_at {C : Cn} {P : Program} {w : World} {K : PySem.W.Frag} {mg : Str → Option Value} {base : Heap} {A : Around} {x : Str} {c n : Nat} (h : excB P.main.file K (C.cx c) n (xfN c) = true) (hm : mg x = some (.ref (C.cx c))) (hs : mg "super" = none) (htop : (P.main.scope.names.lookup ("super" : Str)).isSome = false) (hr : Room 2 A) :
    ExcAt C (P, w, K, mg, base, A) x c n := by
  unfold excB at h
  split at h
  · rename_i F hF
    split at h
    · rename_i k cc hcl
      simp only [Bool.and_eq_true, decide_eq_true_eq] at h
      obtain ⟨rfl, hg, hb⟩ := h
      unfold bodyB at hb
      split at hb
      · rename_i hn
        subst hn
        simp only [Bool.and_eq_true] at hb
        obtain ⟨b1, b2, b3⟩ := hb
        obtain ⟨xa, ea, ex⟩ := par1_ok b1
        obtain ⟨p0, p1, p2, p3, p4, p5, z, j, eb, hl⟩ := body0_ok b3
        have X : ExcK P K mg (C.cx c) (He.ma K (C.cx c) "__init__") F cc [kself] := excK_of hF hcl hg hs htop (fun kV doc pm an ct us hu => by rw [ea]; exact bind1 ex us hu) ⟨xa, by rw [ea]; rfl, ex⟩ b2 rfl
        obtain ⟨fd, F1, B1⟩ := exc_fn0 (CX := L2.CX P w) (w := w) (base := base) (k := 0) X eb hl
        exact ⟨1, _, fd, X.T, X.iC, X.tI, hr, hm, .inl ⟨rfl, F1, B1⟩⟩
      · split at hb
        · rename_i y hy
          simp only [Bool.and_eq_true, decide_eq_true_eq, Bool.not_eq_true'] at hb
          obtain ⟨rfl, b0, b2, b3, b4, b5, b6⟩ := hb
          subst b0
          obtain ⟨xa, ya, ea, ex, ey⟩ := par2_ok hy
          obtain ⟨p0, p1, p2, p3, p4, p5, p6, p7, p8, p9, z, j, eb, hl⟩ := body1_ok b3
          have X : ExcK P K mg (C.cx c) (He.ma K (C.cx c) "__init__") F cc [kself, xfN c] := excK_of hF hcl hg hs htop (fun kV doc pm an ct us hu => by rw [ea]; exact bind2 ex ey us hu) ⟨xa, by rw [ea]; rfl, ex⟩ b2 rfl
          obtain ⟨fd, F1, B1⟩ := exc_fn1 (CX := L2.CX P w) (w := w) (base := base) (k := 0) X eb hl b4 (X.sc.par _ (by simp)) b5 b6
          exact ⟨1, _, fd, X.T, X.iC, X.tI, hr, hm, .inr ⟨rfl, _, F1, B1⟩⟩
        · cases hb
    · cases h
  · cases h
/-! ### of the classes together -/
def excCB (K : PySem.W.Frag) (C : Addr) : Bool := decide (PySem.W.findIn K (.ref C) "__class__" = some (some (.builtin "object.__class__"))) && (decide (PySem.W.specialIn K (.builtin "object.__class__") "__get__" = some (some (.builtin "getset_descriptor.__get__"))) && (decide (PySem.W.takesIn K (.builtin "object.__class__") = some true) && decide (PySem.W.mroIn K C (.type "object") = some true)))
def xcB (K : PySem.W.Frag) (cx : Nat → Addr) (xc : List (Str × Nat)) : Bool :=
  xc.all (fun p => xfB K (cx p.2) && (decide (PySem.W.findIn K (.ref (cx p.2)) (xfN p.2) = some none) && (excCB K (cx p.2) && (xc.all (fun q => decide (PySem.W.exmOne K (.ref (cx p.2)) (.ref (cx q.2)) = some (subX q.2 p.2)) && (decide (q.2 ≠ 0) || decide (PySem.W.kitOne K (.ref (cx p.2)) (.ref (cx 0)) = some true)))))))
theorem xcB_ok {C : Cn} {K : PySem.W.Frag} {mg : Str → Option Value} {xc : List (Str × Nat)} (h : xcB K C.cx xc = true) (hm : ∀ p ∈ xc, mg p.1 = some (.ref (C.cx p.2))) : XcOk C K mg xc := by
  unfold xcB at h
  rw [List.all_eq_true] at h
  have g : ∀ p ∈ xc, XfC K (C.cx p.2) ∧ PySem.W.findIn K (.ref (C.cx p.2)) (xfN p.2) = some none ∧ ExcC K (C.cx p.2) ∧ ∀ q ∈ xc, PySem.W.exmOne K (.ref (C.cx p.2)) (.ref (C.cx q.2)) = some (subX q.2 p.2) ∧ (q.2 = 0 → PySem.W.kitOne K (.ref (C.cx p.2)) (.ref (C.cx 0)) = some true) := fun p hp => by
    have hh := h p hp
    simp only [Bool.and_eq_true, decide_eq_true_eq, List.all_eq_true, Bool.or_eq_true] at hh
    obtain ⟨h1, h2, h3, h4⟩ := hh
    have x := xfB_ok h1
    unfold excCB at h3
    simp only [Bool.and_eq_true, decide_eq_true_eq] at h3
    obtain ⟨c1, c2, c3, c4⟩ := h3
    exact ⟨x, h2, ⟨x.ga, x.gg, x.exC, x.hdC, c1, c2, c3, c4⟩, fun q hq => ⟨(h4 q hq).1, fun z => (h4 q hq).2.elim (fun n => absurd z n) id⟩⟩
  exact ⟨hm, fun p hp => (g p hp).1, fun p hp => (g p hp).2.1, fun p hp => (g p hp).2.2.1, fun p hp q hq => ((g p hp).2.2.2 q hq).1, fun p hp q hq => ((g p hp).2.2.2 q hq).2⟩
def cxNames : List Str := ["RowError", "BadRow", "BadHeld", "BadStep", "BadTold", "BadIndex", "BadKind", "NotComparable", "BadLine"]
def cxA (K : PySem.W.Frag) (c : Nat) : Addr := He.ga K (cxNames.getD c "")
end MP

/-! MPH: forms of one's own. -/
namespace MP
open PySem PySem.Spec PyProof.Rows L2
/-- list(range(n)) -/
def hkLR : Hook := ⟨fun sc ex => match ex with | .Call (.Name l _) [.Call (.Name r _) [a] [] _] [] _ => if decide (l = ("list" : Str)) && decide (r = ("range" : Str)) && glB sc l && glB sc r && notStar a then some [a] else none | _ => none, .pk, .fr⟩
def lrF : FS := fun ds s => match ds with
  | [.int j] => if decide (-(2 ^ 62) ≤ j) && decide (j ≤ BIG) then .ok (.lst (rngItems 0 j.toNat)) s else .stuck
  | _ => .stuck
theorem gl_of {X : Cx} {x : Str} (h : glB X.env.scope x = true) : Gl X x := by
  simp only [glB, Bool.and_eq_true, decide_eq_true_eq] at h
  exact h.1
theorem notCallR {r : Str} {a : Expr} {p q : Pos} : notStar (.Call (.Name r p) [a] [] q) = true := rfl
theorem rgV_rep {C : Cn} {F : Hp} {L : List Addr} (j : Int) : RepAll C F L (rgV 0 j) (rngItems 0 j.toNat) := by
  have e : (j - 0).toNat = j.toNat := by simp
  unfold rgV rngItems
  rw [e]
  generalize List.range j.toNat = l
  induction l with
  | nil => exact .nil
  | cons a l ih => exact .cons (.int _) ih
theorem hkLR_ok {C : Cn} {B : Bs} (h1 : B.mg "list" = none) (h2 : B.mg "range" = none) : HookOk C B hkLR lrF := ⟨fun X W ex es ms hb hK hc hu tk hmt pl => by
  subst hb
  simp only [hkLR] at hmt
  split at hmt
  · split at hmt
    · rename_i h
      simp only [Bool.and_eq_true, decide_eq_true_eq] at h
      obtain ⟨⟨⟨⟨rfl, rfl⟩, g1⟩, g2⟩, hs⟩ := h
      cases hmt
      cases pl with
      | cons pe q =>
      cases q
      refine PE.imp (pe_listRg hc (gl_of g1) h1 (prg_1 (gl_of g2) h2 pe (star_one hs)) (star_one notCallR)) fun σ H Q ⟨F, L, S, ρ, k, en, q⟩ => ⟨F, L, S, ρ, k, en, q.bind.bind.imp fun F1 L1 H1 S1 d e1 k1 q1 v r1 => ?_⟩
      have q2 := Rn.now (a := [d]) q1 k1
      cases d <;> (first | exact False.elim q2 | skip)
      rename_i j
      have r1 : Pk C F1 L1 H1 v (.int j) := r1
      simp only [lrF] at q2
      split at q2
      · rename_i hj
        simp only [Bool.and_eq_true, decide_eq_true_eq] at hj
        have hj2 : j ≤ 16777216 := hj.2
        refine ⟨j, r1.int, ⟨by decide, by decide, hj.1, by omega, by omega⟩, fun p np => ?_⟩
        have e2 := (Ext.refl F1 L1 H1).laid (p := p) (o := .lst (rgV 0 j)) np
        exact q2 _ _ _ e2 (k1.laid np) _ (Vok.fr (.lst (e1.none_of np) upd_same (by rw [rgV_length, sizeLine_eq]; omega) (k1.notF np) (k1.notL np) (rgV_rep j)))
      · exact False.elim q2
    · cases hmt
  · cases hmt⟩
/-- 'z'.index(e) -/
def hkSIdx (z : Str) : Hook := ⟨fun sc ex => match ex with | .Call (.Attribute (.Constant (.str w) _ _) n ap) [a] [] cp => if decide (n = ("index" : Str)) && decide (w = z) && notStar a && decide (ap.endLine = cp.line) then some [a] else none | _ => none, .pk, .rep⟩
/-- e.split('z') -/
def hkSplit (z : Str) : Hook := ⟨fun sc ex => match ex with | .Call (.Attribute o n ap) [.Constant (.str w) _ _] [] cp => if decide (n = ("split" : Str)) && decide (w = z) && notCall0 o && decide (ap.endLine = cp.line) then some [o] else none | _ => none, .pk, .fr⟩
def sidxF (x : Str) : FS := fun ds s => match ds with
  | [.str y] => (match Builtin.Str.occurrences x y 0 x.length 1 with | i :: _ => .ok (.int (i : Nat)) s | [] => .stuck)
  | _ => .stuck
def splitF (y : Str) : FS := fun ds s => match ds with
  | [.str x] => if decide (y.length ≠ 0) && decide (x.length + 2 ≤ BIG) && (Txt.split x y).all sOk && decide ((Txt.split x y).length ≤ BIG) then .ok (.lst ((Txt.split x y).map .str)) s else .stuck
  | _ => .stuck
theorem hkSIdx_ok {C : Cn} {B : Bs} {z : Str} : HookOk C B (hkSIdx z) (sidxF z) := ⟨fun X W ex es ms hb hK hc hu tk hmt pl => by
  simp only [hkSIdx] at hmt
  split at hmt
  · split at hmt
    · rename_i hh
      simp only [Bool.and_eq_true, decide_eq_true_eq] at hh
      obtain ⟨⟨⟨rfl, rfl⟩, h2⟩, h3⟩ := hh
      cases hmt
      cases pl with
      | cons pe q =>
      cases q
      refine PE.imp (pe_m1 PySem.F.slot_str_index PySem.F.type_str_index mt_sindex pe_str pe (star_one h2) (ab_of rfl) (by simpa using h3)) fun σ H Q ⟨F, L, S, ρ, k, en, q⟩ => ⟨⟨_, rfl⟩, F, L, S, ρ, k, en, q.bind.bind.imp fun F1 L1 H1 S1 d e1 k1 q1 v r1 => ?_⟩
      have q2 := Rn.now (a := [d]) q1 k1
      cases d <;> (first | exact False.elim q2 | skip)
      rename_i y
      have r1 : Pk C F1 L1 H1 v (.str y) := r1
      simp only [sidxF] at q2
      split at q2
      · rename_i i rest ho
        exact ⟨_, y, i, rest, rfl, by rw [r1.str.1], ho, q2 _ _ _ (Ext.refl _ _ _) k1 _ (.int _)⟩
      · exact False.elim q2
    · cases hmt
  · cases hmt⟩
theorem strs_rep {C : Cn} {F : Hp} {L : List Addr} : ∀ {ys : List Str}, ys.all sOk = true → RepAll C F L (ys.map V.str) (ys.map D.str)
  | [], _ => .nil
  | y :: ys, h => by
    simp only [List.all_cons, Bool.and_eq_true] at h
    exact .cons (.str _ h.1) (strs_rep h.2)
theorem hkSplit_ok {C : Cn} {B : Bs} {z : Str} : HookOk C B (hkSplit z) (splitF z) := ⟨fun X W ex es ms hb hK hc hu tk hmt pl => by
  simp only [hkSplit] at hmt
  split at hmt
  · split at hmt
    · rename_i w _ _ _ hh
      simp only [Bool.and_eq_true, decide_eq_true_eq] at hh
      obtain ⟨⟨⟨rfl, rfl⟩, h2⟩, h3⟩ := hh
      cases hmt
      cases pl with
      | cons pe q =>
      cases q
      refine PE.imp (pe_m1 PySem.F.slot_str_split PySem.F.type_str_split mt_split pe pe_str rfl (ab_of h2) (by simpa using h3)) fun σ H Q ⟨F, L, S, ρ, k, en, q⟩ => ⟨F, L, S, ρ, k, en, q.bind.bind.imp fun F1 L1 H1 S1 d e1 k1 q1 v r1 => ?_⟩
      have q2 := Rn.now (a := [d]) q1 k1
      cases d <;> (first | exact False.elim q2 | skip)
      rename_i x
      have r1 : Pk C F1 L1 H1 v (.str x) := r1
      simp only [splitF] at q2
      split at q2
      · rename_i hj
        simp only [Bool.and_eq_true, decide_eq_true_eq] at hj
        obtain ⟨⟨⟨j1, j2⟩, j3⟩, j4⟩ := hj
        refine ⟨⟨_, r1.str.1⟩, _, _, r1.str.1, rfl, by simpa using j1, by rw [sizeBIG]; exact j2, fun p np => ?_⟩
        have e2 := (Ext.refl F1 L1 H1).laid (p := p) (o := .lst ((Txt.split x w).map V.str)) np
        exact q2 _ _ _ e2 (k1.laid np) _ (Vok.fr (.lst (e1.none_of np) upd_same (by rw [List.length_map, sizeBIG]; exact j4) (k1.notF np) (k1.notL np) (strs_rep j3)))
      · exact False.elim q2
    · cases hmt
  · cases hmt⟩
theorem lr_hk {D : Wd} (h1 : D.mg "list" = none) (h2 : D.mg "range" = none) : FIK D 0 (.hk hkLR) lrF := fun A _ => hkLR_ok h1 h2
theorem sidx_hk {D : Wd} {z : Str} : FIK D 0 (.hk (hkSIdx z)) (sidxF z) := fun A _ => hkSIdx_ok
theorem split_hk {D : Wd} {z : Str} : FIK D 0 (.hk (hkSplit z)) (splitF z) := fun A _ => hkSplit_ok
/-! ### properties -/
def fscB (N P : List Str) (sc : Scope) : Bool :=
  decide (sc.kind = .function) && (!sc.isCoroutine && (!sc.isGenerator && (decide N.Nodup && (decide (N.take P.length = P) && (P.all (fun x => decide (sc.names.lookup x = some .local) || decide (sc.names.lookup x = some .cell)) && sc.names.all (fun y => !decide (y.2 = .free)))))))
theorem fscB_ok {N P : List Str} {sc : Scope} (h : fscB N P sc = true) : FnScope N P sc := by
  unfold fscB at h
  simp only [Bool.and_eq_true, Bool.not_eq_true', decide_eq_true_eq, List.all_eq_true, Bool.or_eq_true, decide_eq_false_iff_not] at h
  obtain ⟨h1, h2, h3, h4, h5, h6, h7⟩ := h
  exact ⟨h1, h2, h3, h4, h5, h6, h7⟩
/-- a getter looked at -/
def getB (K : PySem.W.Frag) (g : Addr) (N : List Str) (is : List FI) (tk : List (Str × List Str)) (xc : List (Str × Nat)) (fr : Bool) (b : List St) : Bool := match nfB K g with
  | some F => F.cl.isEmpty && (PySem.W.codeIn K (.ref F.c) F.qual && (PySem.W.keepIn K (.ref g) && (fscB N [kself] F.scope && (par1 F.params && chkSs (gmOf N F.scope is tk xc) (lvOf fr) b F.body))))
  | none => false
theorem getB_ok {D : Wd} {tk : List (Str × List Str)} {xc : List (Str × Nat)} {k : Nat} {N : List Str} {is : List FI} {fs : List FS} {g : Addr} {fr : Bool} {b : List St} (wd : WdOk D tk xc) (fi : FIsK D k is fs) (h : getB D.C.K g N is tk xc fr b = true) :
    ∃ fd, FnKx D (k + 1) 1 fr (evDef (fnL fs) N.length b) g fd [kself] ∧ Binds D.C.K fd [kself] [] := by
  unfold getB at h
  split at h
  · rename_i F hF
    simp only [Bool.and_eq_true] at h
    obtain ⟨h1, h2, h3, h4, h5, h6⟩ := h
    obtain ⟨oc, od, kV, doc, pm, an, ct, osl, lk⟩ := nfB_ok hF
    obtain ⟨xa, ea, ex⟩ := par1_ok h5
    obtain ⟨nm, ql, par, bd, sc, cl, c⟩ := F
    have h1 : cl = [] := List.isEmpty_iff.mp h1
    subst h1
    have FD : FunD D.C.K nm ql par bd sc [] [] g (PySem.W.fnX nm ql par bd sc [] .none kV doc pm an (.ref c) ct) := ⟨⟨oc, od, .none, kV, doc, pm, an, .ref c, ct, osl, rfl, lk, h2, .inl ⟨rfl, rfl⟩, .inl rfl⟩, h3⟩
    refine ⟨_, def_ok (ps := [kself]) wd FD (fscB_ok h4) fi h6, .all fun us hu => ?_⟩
    have ea : par = _ := ea
    rw [ea]
    exact bind1 ex us hu
  · cases h
def getAd (K : PySem.W.Frag) (C : Addr) (f : Str) : Addr := match PySem.W.recIn K (He.ma K C f) "property" with
  | some (.ref g :: _) => g
  | _ => 0
def propB (K : PySem.W.Frag) (C : Addr) (f : Str) : Bool :=
  decide (PySem.W.findIn K (.ref C) f = some (some (.ref (He.ma K C f)))) && (decide (PySem.W.specialIn K (.ref (He.ma K C f)) "__get__" = some (some (.builtin "property.__get__"))) && (decide (PySem.W.takesIn K (.ref (He.ma K C f)) = some true) &&
    (match PySem.W.recIn K (He.ma K C f) "property" with
      | some (.ref g :: _) => true
      | _ => false)))
theorem propB_ok {K : PySem.W.Frag} {C : Addr} {f : Str} (h : propB K C f = true) : PropOf K C f (He.ma K C f) (getAd K C f) := by
  unfold propB at h
  simp only [Bool.and_eq_true, decide_eq_true_eq] at h
  obtain ⟨h1, h2, h3, h4⟩ := h
  refine ⟨h1, h2, h3, ?_⟩
  unfold getAd
  split at h4
  · rename_i e
    rw [e]
    exact ⟨_, rfl⟩
  · cases h4
/-- a.p, of a program -/
def hkPrp (p : Str) (fr : Bool) : Hook := ⟨fun _ ex => match ex with | .Attribute a n _ => if decide (n = p) && notCall0 a then some [a] else none | _ => none, .pk, lvOf fr⟩
def prpF (f : FS) : FS := fun ds s => match ds with
  | [.prg h r c] => (f [.prg h r c] s).nox
  | _ => .stuck
theorem prp_ok {D : Wd} {k : Nat} {p : Str} {fr : Bool} {f : FS} {g : Addr} {fd : FuncData} (po : PrgOk D.C) (hp : PropOf D.C.K D.C.cP p (He.ma D.C.K D.C.cP p) g) (F : FnKx D k 1 fr f g fd [kself]) (hb0 : Binds D.C.K fd [kself] []) : FIK D (k + 1) (.hk (hkPrp p fr)) (prpF f) := fun A hr => ⟨fun X W ex es ms hB hK hc hu tk hmt pl => by
  have e1 : X.prog = D.P := congrArg Bs.prog hB
  have e2 : X.w = D.w := congrArg Bs.w hB
  have e3 : X.K = D.C.K := congrArg Bs.K hB
  have e4 : X.mg = D.mg := congrArg Bs.mg hB
  have e5 : X.base = D.base := congrArg Bs.base hB
  have e6 : X.A = A := congrArg Bs.A hB
  simp only [hkPrp] at hmt
  split at hmt
  · split at hmt
    · rename_i h
      simp only [Bool.and_eq_true, decide_eq_true_eq] at h
      obtain ⟨rfl, h⟩ := h
      cases hmt
      cases pl with
      | cons pe q =>
      cases q
      have F' : FnOk X.prog X.w X.K X.mg X.base (L2.CX X.prog X.w) k g fd [kself] (spD D.C 1 fr f) := by rw [e1, e2, e3, e4, e5]; exact F
      refine PE.imp (pe_prop (E := E0) pe (by rw [e3]; exact po.cls) (by rw [e3]; exact hp) F' (by rw [e6]; exact hr) (by rw [e3]; exact hb0) .nil passL (ab_of h)) fun σ H Q ⟨F, L, S, ρ, k, en, q⟩ => ⟨F, L, S, ρ, k, en, q.bind.bind.imp fun F1 L1 H1 S1 d e1 k1 q1 v r1 => ?_⟩
      have q2 := Rn.now (a := [d]) q1 k1
      cases d <;> (first | exact False.elim q2 | skip)
      have r1 : Pk D.C F1 L1 H1 v _ := r1
      cases r1 with
      | rep r =>
        cases r with
        | prg hF hT z r s1 s2 =>
          have hH := k1.sub _ _ hF
          refine ⟨_, _, _, rfl, hH, rfl, F1, L1, S1, _, k1, .cons (.prg hF hT z r s1 s2) .nil, ?_⟩
          simp only [prpF] at q2
          generalize hf : f [.prg _ _ _] S1 = y at q2 ⊢
          cases y with
          | exc x s => exact False.elim q2
          | stuck => exact False.elim q2
          | ok d s => exact fun F' L' H' x2 k2 v rv => q2 F' L' H' x2 k2 v (rv.from fun a ha => e1.none_of ha)
    · cases hmt
  · cases hmt⟩
end MP

/-! MPI: methods of a program, ==, isinstance, f-strings. -/
namespace MP
open PySem PySem.Spec PyProof.Rows L2
/-- o.m(a, ..), o a program -/
def hkMt (m : Str) (n : Nat) (fr : Bool) : Hook := ⟨fun _ ex => match ex with | .Call (.Attribute (.Name x p) q ap) args [] cp => if decide (q = m) && decide (args.length = n) && args.all notStar && decide (args.length ≤ 2) && decide (ap.endLine = cp.line) then some (.Name x p :: args) else none | _ => none, .rep, lvOf fr⟩
def mtF (m : Str) (f : FS) : FS := fun ds s => match ds with
  | .prg h r c :: ds => f (.prg h r c :: ds) s
  | _ => .stuck
theorem hkMt_some {m : Str} {n : Nat} {fr : Bool} {sc : Scope} {ex : Expr} {es : List Expr} (h : (hkMt m n fr).mt sc ex = some es) : ∃ x p ap cp args, ex = .Call (.Attribute (.Name x p) m ap) args [] cp ∧ es = .Name x p :: args ∧ args.length = n ∧ args.all notStar = true ∧ args.length ≤ 2 ∧ (ap.endLine == cp.line) = true := by
  simp only [hkMt] at h
  split at h
  · split at h
    · rename_i hh
      simp only [Bool.and_eq_true, decide_eq_true_eq] at hh
      obtain ⟨⟨⟨⟨rfl, h2⟩, h3⟩, h4⟩, h5⟩ := hh
      cases h
      exact ⟨_, _, _, _, _, rfl, rfl, h2, h3, h4, by simpa using h5⟩
    · cases h
  · cases h
theorem mt_ok {D : Wd} {k n : Nat} {m : Str} {fr : Bool} {f : FS} {a : Addr} {fd : FuncData} {ps : List Str} (po : PrgOk D.C) (n1 : (m == ("marks" : Str)) = false) (n2 : (m == ("rows" : Str)) = false) (n3 : (m == ("shown" : Str)) = false) (hm : Meth D.C.K D.C.cP m a) (F : FnKx D k (n + 1) fr f a fd ps) (hb : Binds D.C.K fd ps []) : FIK D k (.hs (hkMt m n fr)) (mtF m f) := fun A hr => ⟨fun X W ex es ms hB hK hc hu tk hmt pl hno => by
  have e1 : X.prog = D.P := congrArg Bs.prog hB
  have e2 : X.w = D.w := congrArg Bs.w hB
  have e3 : X.K = D.C.K := congrArg Bs.K hB
  have e4 : X.mg = D.mg := congrArg Bs.mg hB
  have e5 : X.base = D.base := congrArg Bs.base hB
  have e6 : X.A = A := congrArg Bs.A hB
  have F' : FnOk X.prog X.w X.K X.mg X.base (L2.CX X.prog X.w) k a fd ps (spD D.C (n + 1) fr f) := by rw [e1, e2, e3, e4, e5]; exact F
  obtain ⟨nx, np, ap, cp, args, rfl, rfl, h2, h3, h4, h5⟩ := hkMt_some hmt
  have tree := meth_tree (o := .Name nx np) (name := m) (env := X.env) (apos := ap) (pos := cp) (args := args) (ab_of rfl) (form_le h3 h4) h5
  cases pl with
  | @cons _ _ mo ms' pe pl' =>
  have hl := pl'.len
  have look : ∀ (x y z : V), List.lookup m [(("marks" : Str), x), (("rows" : Str), y), (("shown" : Str), z)] = none := fun x y z => by
    rw [List.lookup_cons, n1, List.lookup_cons, n2, List.lookup_cons, n3]
    rfl
  have core : ∀ (t : TA) (_ : t = tA D.C W ms' ∨ (t = tNil ∧ ms' = fun _ s => .ok [] s)) (σ : L2.St) (H : Hp) (Q : VK), tE D.C W (lvOf fr) (fun ρ s => ((mo ρ s).bind fun d s => (ms' ρ s).bind fun ds s => .ok (d :: ds) s).bind fun ds s => mtF m f ds s) σ H Q → tMethS (m := m) D.C.cP (spD D.C (n + 1) fr f) (WE W) (tE D.C W .rep mo) t σ H Q := fun t ht σ H Q ⟨F0, L, S, ρ, kk, en, q⟩ => by
    refine ⟨F0, L, S, ρ, kk, en, ?_⟩
    have no := hno ρ S
    dsimp only at q no
    cases e : ((mo ρ S).bind fun d s => (ms' ρ s).bind fun ds s => .ok (d :: ds) s) with
    | exc x s => exact absurd e (no x s)
    | stuck => rw [e] at q; exact False.elim q
    | ok ds S' =>
      obtain ⟨d, S1, ed, er⟩ := R.bind_ok_inv e
      obtain ⟨ds', S2, em, er⟩ := R.bind_ok_inv er
      cases er
      rw [e] at q
      simp only [R.bind_ok] at q
      rw [ed]
      intro F1 L1 H1 x1 k1 v r1
      have r1 : Rep D.C F1 L1 v d := r1
      cases d <;> (first | exact False.elim q | skip)
      cases r1 with
      | prg hF hT z r s1 s2 =>
        refine ⟨_, _, _, rfl, k1.sub _ _ hF, look _ _ _, ?_⟩
        have fin : ∀ F2 L2 H2, MP.Ext F1 L1 H1 F2 L2 H2 → Ok D.C F2 L2 H2 S' → ∀ vs, RepAll D.C F2 L2 vs ds' → spD D.C (n + 1) fr f (_ :: vs) H2 Q (WE W σ) := fun F2 L2 H2 x2 k2 vs r2 =>
          ⟨by rw [List.length_cons, r2.length, hl _ _ _ _ em, h2], F2, L2, S', _ :: ds', k2, .cons ((Rep.prg hF hT z r s1 s2).up x2.ff x2.ll) r2, by
            refine ((q.start (x1.trans x2)).wish fun c d H' w => w).imp fun F3 L3 H3 S3 d e3 k3 p v rv => p v (rv.from fun a ha => (x1.trans x2).none_of ha)⟩
        rcases ht with rfl | ⟨rfl, hms⟩
        · refine ⟨F1, L1, S1, ρ, k1, en.ext x1, ?_⟩
          rw [em]
          exact fun F2 L2 H2 x2 k2 vs r2 => fin F2 L2 H2 x2 k2 vs r2
        · subst hms
          cases em
          exact fin F1 L1 H1 (MP.Ext.refl _ _ _) k1 [] .nil
  match args, h2, h3, pl', tree with
  | [], h2, h3, pl', tree =>
    cases pl'
    exact PE.imp (pe_methS0 pe (by rw [e3]; exact po.cls) (by rw [e3]; exact hm) F' (by rw [e6]; exact hr) (by rw [e3]; exact hb) (fun σ => passAt tk σ) tree) (core tNil (.inr ⟨rfl, rfl⟩))
  | z :: zs, h2, h3, pl', tree =>
    have hp := pl'.pa h3
    simp only [List.all_cons, Bool.and_eq_true] at h3
    exact PE.imp (pe_methS pe (by rw [e3]; exact po.cls) (by rw [e3]; exact hm) F' (by rw [e6]; exact hr) (by rw [e3]; exact hb) (fun σ => passAt tk σ) hp (star_cons h3.1) (star_none h3.2) tree) (core _ (.inl rfl))⟩
/-! ### a == b, both programs -/
theorem op_own {X : Cx} {CX : CXT} {C f : Addr} {fd : FuncData} {ps : List Str} {k : Nat} {sp : Sp} {E : XK} (F : FnOk X.prog X.w X.K X.mg X.base CX k f fd ps sp)
    (hs : PySem.W.findIn X.K (.ref C) "__eq__" = some (some (.ref f))) (hf : PySem.W.isFn X.K (.ref f) = true) (hb : Binds X.K fd ps []) (hx : Passes CX X E) (hr : Room k X.A) :
    OpR X (compareOp .Eq) fun x y H Q => ∃ a b dx fs dy gs, x = .ref a ∧ y = .ref b ∧ H a = some (.ins C dx fs) ∧ H b = some (.ins C dy gs) ∧ sp [.ref a, .ref b] H (fun v H' => ∃ t, v = .bl t ∧ Q (.bl t) H') E := by
  intro pins s σ H x y v u Q I rx ry d
  obtain ⟨a, b, dx, fs, dy, gs, rfl, rfl, ha, hb', hsp⟩ := d
  cases rx
  cases ry
  obtain ⟨mA, J, _⟩ := ins_get I.hok ha
  obtain ⟨mB, J', _⟩ := ins_get I.hok hb'
  obtain ⟨od, J, _⟩ := J.look
  obtain ⟨od', J', _⟩ := J'.look
  obtain ⟨m, hF⟩ := I.fr
  show wpAny (model X.prog X.w) X.A (richCompare .Eq (.ref a) (.ref b)) (EP X pins σ Q) X.xe s
  refine PySem.W.cmp_K (op := .Eq) (tb := .ref C) hr.units0 hF I.ok.mod.kin J J'.type (by simp [PySem.W.notFirst]) hs hf ?_
  have hl := F.len _ _ _ _ hsp
  have r2 : Vals [V.ref a, V.ref b] [Value.ref a, Value.ref b] := .cons rfl (.cons rfl .nil)
  refine wpAny_call (codeAny_mono (F.run X.A X.stack s H ⟨[.ref a, .ref b], []⟩ [.ref a, .ref b] [.ref a, .ref b] _ E hr I.env0 (by
    have := hb s [.ref a, .ref b] I.kIn (by simpa using hl)
    simpa using this) r2 hsp) fun r s' hq => ?_)
  cases r with
  | error e => exact hx pins σ H s e s' I hq
  | ok fl =>
    cases fl with
    | ret w =>
      obtain ⟨z, H', I', rz, t, ez, q⟩ := I.after hq
      subst ez
      cases rz
      exact ⟨.bl t, H', I', rfl, q⟩
    | next => exact False.elim hq
    | brk => exact False.elim hq
    | cont => exact False.elim hq
def hkEqP : Hook := ⟨fun _ ex => match ex with | .Compare a [.Eq] [b] _ => if notSet b then some [a, b] else none | _ => none, .rep, .fr⟩
def eqpF (f : FS) : FS := fun ds s => match ds with
  | [.prg h r c, .prg h' r' c'] => (f [.prg h r c, .prg h' r' c'] s).nox.bind fun d s => match d with
    | .bl b => .ok (.bl b) s
    | _ => .stuck
  | _ => .stuck
theorem eqp_ok {D : Wd} {k : Nat} {fr : Bool} {f : FS} {a : Addr} {fd : FuncData} {ps : List Str} (hs : PySem.W.findIn D.C.K (.ref D.C.cP) "__eq__" = some (some (.ref a))) (hf : PySem.W.isFn D.C.K (.ref a) = true) (F : FnKx D k 2 fr f a fd ps) (hb : Binds D.C.K fd ps []) : FIK D k (.ht hkEqP) (eqpF f) := fun A hr => ⟨fun X W ex es ms hB hK hc hu tk hmt pl => by
  have e1 : X.prog = D.P := congrArg Bs.prog hB
  have e2 : X.w = D.w := congrArg Bs.w hB
  have e3 : X.K = D.C.K := congrArg Bs.K hB
  have e4 : X.mg = D.mg := congrArg Bs.mg hB
  have e5 : X.base = D.base := congrArg Bs.base hB
  have e6 : X.A = A := congrArg Bs.A hB
  have F' : FnOk X.prog X.w X.K X.mg X.base (L2.CX X.prog X.w) k a fd ps (spD D.C 2 fr f) := by rw [e1, e2, e3, e4, e5]; exact F
  simp only [hkEqP] at hmt
  split at hmt
  · split at hmt
    · rename_i hns
      cases hmt
      cases pl with
      | cons pa pl =>
      cases pl with
      | cons pb pl =>
      cases pl
      rename_i ma mb
      have core : ∀ (σ : L2.St) (H : Hp) (K : VK) (F0 : Hp) (L : List Addr) (S : Sto) (ρ : Env'), Ok D.C F0 L H S → EnvOk D.C F0 L H ρ σ →
          Rn D.C W σ F0 L H (((ma ρ S).bind fun d s => ((mb ρ s).bind fun d s => (R.ok [] s).bind fun ds s => R.ok (d :: ds) s).bind fun ds s => R.ok (d :: ds) s).bind fun ds s => eqpF f ds s) (fun _ _ H' _ d => ∀ b, d = .bl b → K (.bl b) H') →
          tOp (fun x y H Q => ∃ a b dx fs dy gs, x = .ref a ∧ y = .ref b ∧ H a = some (.ins D.C.cP dx fs) ∧ H b = some (.ins D.C.cP dy gs) ∧ spD D.C 2 fr f [.ref a, .ref b] H (fun v H' => ∃ t, v = .bl t ∧ Q (.bl t) H') E0) (tE D.C W .rep ma) (tE D.C W .rep mb) σ H K := fun σ H K F0 L S ρ k0 en q => by
        refine ⟨F0, L, S, ρ, k0, en, q.bind.bind.imp fun F1 L1 H1 S1 x x1 k1 q1 v r1 => ⟨F1, L1, S1, ρ, k1, en.ext x1, q1.bind.bind.imp fun F2 L2 H2 S2 y x2 k2 q2 w r2 => ?_⟩⟩
        have q3 := Rn.now (a := [y]) q2 k2
        have q3 := Rn.now (a := [x, y]) q3 k2
        have r1 : Rep D.C F2 L2 v x := (show Rep D.C F1 L1 v x from r1).up x2.ff x2.ll
        have r2 : Rep D.C F2 L2 w y := r2
        cases x <;> (first | exact False.elim q3 | skip)
        cases y <;> (first | exact False.elim q3 | skip)
        have rr := RepAll.cons r1 (.cons r2 .nil)
        cases r1 with
        | prg hF hT z r s1 s2 =>
        cases r2 with
        | prg hF' hT' z' r' s1' s2' =>
        refine ⟨_, _, _, _, _, _, rfl, rfl, k2.sub _ _ hF, k2.sub _ _ hF', rfl, F2, L2, S2, _, k2, rr, ?_⟩
        simp only [eqpF] at q3
        generalize hg : f [_, _] S2 = g at q3 ⊢
        cases g with
        | exc x s => exact False.elim q3
        | stuck => exact False.elim q3
        | ok d s =>
          simp only [R.nox_ok, R.bind_ok] at q3
          cases d <;> (first | exact False.elim q3 | skip)
          rename_i bb
          intro F3 L3 H3 x3 k3 v3 r3
          have r3' : Rep D.C F3 L3 v3 (.bl bb) := by cases fr <;> simpa [Vok, lvOf, isFr] using r3
          cases r3'
          exact ⟨bb, rfl, q3 _ _ _ x3 k3 bb rfl⟩
      have op := op_own (E := E0) F' (by rw [e3]; exact hs) (by rw [e3]; exact hf) (by rw [e3]; exact hb) passL (by rw [e6]; exact hr)
      constructor
      · refine PE.imp (pe_cmpR op pa pb (bm_of hns)) fun σ H Q ⟨F0, L, S, ρ, k0, en, q⟩ => core σ H Q F0 L S ρ k0 en (q.imp fun F' L' H' S' d x k p b hb => ?_)
        subst hb
        exact p _ (Vok.re rfl (.bl b))
      · refine ⟨fun pins s σ H Q I h => (pt_cmpR op pa pb (bm_of hns)).run pins s σ H Q I ?_⟩
        obtain ⟨F0, L, S, ρ, k0, en, q⟩ := h
        refine core σ H _ F0 L S ρ k0 en (q.bind.imp fun F' L' H' S' d x k p b hb => ?_)
        subst hb
        exact ⟨b, rfl, Rn.now (a := b) p k⟩
    · cases hmt
  · cases hmt⟩
/-! ### isinstance(a, Program) -/
structure IsPrg (C : Cn) : Prop where
  cls : Cls C.K C.cP
  ha : PySem.W.findIn C.K (.ref C.cP) "__class__" = some (some (.builtin "object.__class__"))
  hn : PySem.W.specialIn C.K (.builtin "object.__class__") "__get__" = some (some (.builtin "getset_descriptor.__get__"))
  ht : PySem.W.takesIn C.K (.builtin "object.__class__") = some true
  hm : PySem.W.mroIn C.K C.cP (.type "object") = some true
  kt : PySem.W.kitOne C.K (.ref C.cP) (.ref C.cP) = some true
def isPB (K : PySem.W.Frag) (c : Addr) : Bool := decide (PySem.W.findIn K (.ref c) "__class__" = some (some (.builtin "object.__class__"))) && (decide (PySem.W.specialIn K (.builtin "object.__class__") "__get__" = some (some (.builtin "getset_descriptor.__get__"))) && (decide (PySem.W.takesIn K (.builtin "object.__class__") = some true) && (decide (PySem.W.mroIn K c (.type "object") = some true) && decide (PySem.W.kitOne K (.ref c) (.ref c) = some true))))
theorem isPB_ok {C : Cn} (po : PrgOk C) (h : isPB C.K C.cP = true) : IsPrg C := by
  unfold isPB at h
  simp only [Bool.and_eq_true, decide_eq_true_eq] at h
  obtain ⟨h1, h2, h3, h4, h5⟩ := h
  exact ⟨po.cls, h1, h2, h3, h4, h5⟩
def hkIsP (x : Str) : Hook := ⟨fun sc ex => match ex with | .Call (.Name i _) [a, .Name y _] [] _ => if decide (i = ("isinstance" : Str)) && glB sc i && decide (y = x) && glB sc y && notStar a then some [a] else none | _ => none, .pk, .fr⟩
def ispF : FS := fun ds s => match ds with
  | [.prg _ _ _] => .ok (.bl true) s
  | _ => .stuck
theorem isp_ok {D : Wd} {x : Str} (ip : IsPrg D.C) (hm : D.mg x = some (.ref D.C.cP)) (hi : D.mg "isinstance" = none) : FIK D 0 (.hk (hkIsP x)) ispF := fun A hr => ⟨fun X W ex es ms hB hK hc hu tk hmt pl => by
  have e3 : X.K = D.C.K := congrArg Bs.K hB
  have e4 : X.mg = D.mg := congrArg Bs.mg hB
  simp only [hkIsP] at hmt
  split at hmt
  · split at hmt
    · rename_i hh
      simp only [Bool.and_eq_true, decide_eq_true_eq] at hh
      obtain ⟨⟨⟨⟨rfl, g1⟩, rfl⟩, g2⟩, h3⟩ := hh
      cases hmt
      cases pl with
      | cons pe q =>
      cases q
      have hT := fun (p : Pos) => pe_glob (X := X) (pos := p) (v := .ref D.C.cP) (gl_of g2) (by rw [e4]; exact hm) rfl (gl_dbg g2)
      have he : ∀ (a b : Expr), notStar a = true → notStar b = true → starEach [a, b] X.env = [(false, eval a X.env), (false, eval b X.env)] := fun a b ha hb => by rw [star_cons ha, star_one hb]
      refine PE.imp (pe_callB call_isi (gl_of g1) (by rw [e4]; exact hi) (by decide +kernel) (pa_cons pe (pa_cons (hT _) pa_nil rfl) (by rw [star_cons h3])) (by decide) (by decide) (by rw [star_cons h3]) rfl) fun σ H Q ⟨F, L, S, ρ, k, en, q⟩ => ⟨F, L, S, ρ, k, en, q.bind.bind.imp fun F1 L1 H1 S1 d e1 k1 q1 v r1 => ?_⟩
      have q2 := Rn.now (a := [d]) q1 k1
      cases d <;> (first | exact False.elim q2 | skip)
      have r1 : Pk D.C F1 L1 H1 v _ := r1
      cases r1 with
      | rep r =>
        cases r with
        | prg hF hT' z r s1 s2 =>
          have hH := k1.sub _ _ hF
          refine ⟨_, .ref D.C.cP, .ref D.C.cP, .ref D.C.cP, true, rfl, .own _, .base (.ins hH ?_ ?_ ?_ ?_ ?_), ?_, ?_⟩
          · rw [e3]; exact ip.cls
          · rw [e3]; exact ip.ha
          · rw [e3]; exact ip.hn
          · rw [e3]; exact ip.ht
          · rw [e3]; exact ip.hm
          · rw [e3]; exact ip.kt
          · exact q2 _ _ _ (MP.Ext.refl _ _ _) k1 _ (Vok.re rfl (.bl _))
    · cases hmt
  · cases hmt⟩
/-! ### f'{a} {b} {c}' -/
def hkF3 : Hook := ⟨fun _ ex => match ex with
  | .JoinedStr [.FormattedValue a c1 none _, .Constant (.str z1) _ _, .FormattedValue b c2 none _, .Constant (.str z2) _ _, .FormattedValue c c3 none _] _ => if decide (c1 = -1) && decide (c2 = -1) && decide (c3 = -1) && decide (z1 = (" " : Str)) && decide (z2 = (" " : Str)) then some [a, b, c] else none
  | _ => none, .pk, .fr⟩
def fmtD : D → Option Str
  | .str y => if y.length ≤ BIG then some y else none
  | .int i => if i.natAbs.log2 < 1920 then some (toString i) else none
  | _ => none
def f3F : FS := fun ds s => match ds with
  | [a, b, c] => (match fmtD a with
    | some x => (match fmtD b with
      | some y => (match fmtD c with
        | some z => if (Str.empty ++ x ++ " " ++ y ++ " " ++ z).length ≤ BIG then R.of (mkStr (Str.empty ++ x ++ " " ++ y ++ " " ++ z)) s else .stuck
        | none => .stuck)
      | none => .stuck)
    | none => .stuck)
  | _ => .stuck
theorem fmt_cases {C : Cn} {F : Hp} {L : List Addr} {H : Hp} {d : D} {v : V} {y : Str} (r : Pk C F L H v d) (h : fmtD d = some y) : (v = .str y ∧ y.length ≤ sizeLine) ∨ ∃ i : Int, v = .int i ∧ i.natAbs.log2 < 1920 ∧ toString i = y := by
  cases d <;> simp only [fmtD] at h <;> (first | cases h; done | skip)
  · split at h
    · rename_i hl
      cases h
      exact .inr ⟨_, r.int, hl, rfl⟩
    · cases h
  · split at h
    · rename_i hl
      cases h
      exact .inl ⟨r.str.1, by rw [sizeBIG]; exact hl⟩
    · cases h
theorem len_le (x y : Str) : x.length ≤ (x ++ y).length := by
  rw [Str.length_append]
  exact Nat.le_add_right _ _
theorem f3_ok {D : Wd} : FIK D 0 (.hs hkF3) f3F := fun A hr => ⟨fun X W ex es ms hB hK hc hu tk hmt pl hno => by
  simp only [hkF3] at hmt
  split at hmt
  · split at hmt
    · rename_i hh
      simp only [Bool.and_eq_true, decide_eq_true_eq] at hh
      obtain ⟨⟨⟨⟨rfl, rfl⟩, rfl⟩, rfl⟩, rfl⟩ := hh
      cases hmt
      cases pl with
      | @cons _ _ ma _ pa pl =>
      cases pl with
      | @cons _ _ mb _ pb pl =>
      cases pl with
      | @cons _ _ mc _ pc pl =>
      cases pl
      refine PE.imp (pe_joined (.cons (pe_fmt pa) (.cons pe_str (.cons (pe_fmt pb) (.cons pe_str (.cons (pe_fmt pc) .nil)))))) fun σ H Q ⟨F, L, S, ρ, k, en, q⟩ => ?_
      have no := hno ρ S
      dsimp only at q no
      generalize em : ((ma ρ S).bind fun d s => ((mb ρ s).bind fun d s => ((mc ρ s).bind fun d s => (R.ok [] s).bind fun ds s => R.ok (d :: ds) s).bind fun ds s => R.ok (d :: ds) s).bind fun ds s => R.ok (d :: ds) s) = g at q no
      cases g with
      | exc x s => exact absurd rfl (no x s)
      | stuck => exact False.elim q
      | ok ds S' =>
        obtain ⟨a, S1, ea, er⟩ := R.bind_ok_inv em
        obtain ⟨ds1, S1', er1, er⟩ := R.bind_ok_inv er
        cases er
        obtain ⟨b, S2, eb, er⟩ := R.bind_ok_inv er1
        obtain ⟨ds2, S2', er2, er⟩ := R.bind_ok_inv er
        cases er
        obtain ⟨c, S3, ec, er⟩ := R.bind_ok_inv er2
        cases er
        simp only [R.bind_ok, f3F] at q
        split at q
        · rename_i x hx
          split at q
          · rename_i y hy
            split at q
            · rename_i z hz
              split at q
              · rename_i hl
                obtain ⟨d, hd, q⟩ := q.of
                obtain ⟨rfl, hok⟩ := mkStr_some hd
                have l4 := hl
                rw [← sizeBIG] at l4
                have l3 := Nat.le_trans (len_le _ z) l4
                have l2 := Nat.le_trans (len_le _ " ") l3
                have l1 := Nat.le_trans (len_le _ y) l2
                have l0 := Nat.le_trans (len_le _ " ") l1
                refine ⟨F, L, S, ρ, k, en, ?_⟩
                rw [ea]
                intro F1 L1 H1 x1 k1 v1 r1
                rcases fmt_cases (show Pk D.C F1 L1 H1 v1 a from r1) hx with ⟨rfl, g1⟩ | ⟨i1, rfl, g1, rfl⟩
                all_goals
                  first
                  | refine .inl ⟨_, rfl, g1, _, rfl, l0, _, rfl, l1, F1, L1, S1, ρ, k1, en.ext x1, ?_⟩
                  | refine .inr ⟨_, rfl, g1, _, rfl, l0, _, rfl, l1, F1, L1, S1, ρ, k1, en.ext x1, ?_⟩
                  rw [eb]
                  intro F2 L2 H2 x2 k2 v2 r2
                  rcases fmt_cases (show Pk D.C F2 L2 H2 v2 b from r2) hy with ⟨rfl, g2⟩ | ⟨i2, rfl, g2, rfl⟩
                  all_goals
                    first
                    | refine .inl ⟨_, rfl, g2, _, rfl, l2, _, rfl, l3, F2, L2, S2, ρ, k2, (en.ext x1).ext x2, ?_⟩
                    | refine .inr ⟨_, rfl, g2, _, rfl, l2, _, rfl, l3, F2, L2, S2, ρ, k2, (en.ext x1).ext x2, ?_⟩
                    rw [ec]
                    intro F3 L3 H3 x3 k3 v3 r3
                    rcases fmt_cases (show Pk D.C F3 L3 H3 v3 c from r3) hz with ⟨rfl, g3⟩ | ⟨i3, rfl, g3, rfl⟩
                    · exact .inl ⟨_, rfl, g3, _, rfl, l4, q _ _ _ ((x1.trans x2).trans x3) k3 _ (Vok.re rfl (.str _ hok))⟩
                    · exact .inr ⟨_, rfl, g3, _, rfl, l4, q _ _ _ ((x1.trans x2).trans x3) k3 _ (Vok.re rfl (.str _ hok))⟩
              · exact False.elim q
            · exact False.elim q
          · exact False.elim q
        · exact False.elim q
    · cases hmt
  · cases hmt⟩
/-! ### len(a), a program -/
theorem call_lenP {X : Cx} {CX : CXT} {C f : Addr} {fd : FuncData} {ps : List Str} {k : Nat} {sp : Sp} {E : XK} (F : FnOk X.prog X.w X.K X.mg X.base CX k f fd ps sp)
    (hs : PySem.W.findIn X.K (.ref C) "__len__" = some (some (.ref f))) (hf : PySem.W.isFn X.K (.ref f) = true) (hb : Binds X.K fd ps []) (hx : Passes CX X E) (hr : Room (k + 1) X.A) :
    CallR X (.builtin "len") fun xs H Q => ∃ a dx fs, xs = [.ref a] ∧ H a = some (.ins C dx fs) ∧ sp [.ref a] H (fun v H' => ∃ n : Int, v = .int n ∧ (0 ≤ n ∧ n < 2 ^ 63) ∧ Q (.int n) H') E := by
  intro pins s σ H xs us Q I r h
  obtain ⟨a, dx, fs, rfl, ha, hsp⟩ := h
  cases r with
  | cons r1 r2 =>
  cases r2
  cases r1
  obtain ⟨mA, J, _⟩ := ins_get I.hok ha
  obtain ⟨od, J, _⟩ := J.look
  obtain ⟨m, hF⟩ := I.fr
  refine PySem.W.len_K hF I.ok.mod.kin J hs hf ?_
  have hl := F.len _ _ _ _ hsp
  have r2 : Vals [V.ref a] [Value.ref a] := .cons rfl .nil
  refine wpAny_call (codeAny_mono (F.run X.A.in1 X.stack s H ⟨[.ref a], []⟩ [.ref a] [.ref a] _ E hr.in1 I.env0.in1 (by
    have := hb s [.ref a] I.kIn (by simpa using hl)
    simpa using this) r2 hsp) fun r s' hq => ?_)
  cases r with
  | error e => exact hx pins σ H s e s' I hq
  | ok fl =>
    cases fl with
    | ret w =>
      obtain ⟨z, H', I', rz, n, ez, hn, q⟩ := I.after hq
      subst ez
      obtain ⟨t, rfl⟩ := rz
      exact ⟨hn, .int n, H', I'.tok _, ⟨_, rfl⟩, q⟩
    | next => exact False.elim hq
    | brk => exact False.elim hq
    | cont => exact False.elim hq
def hkLenP : Hook := ⟨fun sc ex => match ex with | .Call (.Name i _) [a] [] _ => if decide (i = ("len" : Str)) && glB sc i && notStar a then some [a] else none | _ => none, .pk, .fr⟩
def lenpF (f : FS) : FS := fun ds s => match ds with
  | [.prg h r c] => (f [.prg h r c] s).nox.bind fun d s => match d with
    | .int n => if decide (0 ≤ n) && decide (n < 2 ^ 63) then .ok (.int n) s else .stuck
    | _ => .stuck
  | _ => .stuck
theorem lenp_ok {D : Wd} {k : Nat} {fr : Bool} {f : FS} {a : Addr} {fd : FuncData} {ps : List Str} (hs : PySem.W.findIn D.C.K (.ref D.C.cP) "__len__" = some (some (.ref a))) (hf : PySem.W.isFn D.C.K (.ref a) = true) (hi : D.mg "len" = none) (F : FnKx D k 1 fr f a fd ps) (hb : Binds D.C.K fd ps []) : FIK D (k + 1) (.hk hkLenP) (lenpF f) := fun A hr => ⟨fun X W ex es ms hB hK hc hu tk hmt pl => by
  have e1 : X.prog = D.P := congrArg Bs.prog hB
  have e2 : X.w = D.w := congrArg Bs.w hB
  have e3 : X.K = D.C.K := congrArg Bs.K hB
  have e4 : X.mg = D.mg := congrArg Bs.mg hB
  have e5 : X.base = D.base := congrArg Bs.base hB
  have e6 : X.A = A := congrArg Bs.A hB
  have F' : FnOk X.prog X.w X.K X.mg X.base (L2.CX X.prog X.w) k a fd ps (spD D.C 1 fr f) := by rw [e1, e2, e3, e4, e5]; exact F
  simp only [hkLenP] at hmt
  split at hmt
  · split at hmt
    · rename_i hh
      simp only [Bool.and_eq_true, decide_eq_true_eq] at hh
      obtain ⟨⟨rfl, g1⟩, h3⟩ := hh
      cases hmt
      cases pl with
      | cons pe q =>
      cases q
      refine PE.imp (pe_callB (call_lenP (E := E0) F' (by rw [e3]; exact hs) (by rw [e3]; exact hf) (by rw [e3]; exact hb) passL (by rw [e6]; exact hr)) (gl_of g1) (by rw [e4]; exact hi) (by decide +kernel) (pa_cons pe pa_nil (star_one h3)) (by decide) (by decide) (star_one h3) rfl) fun σ H Q ⟨F0, L, S, ρ, k0, en, q⟩ => ⟨F0, L, S, ρ, k0, en, q.bind.bind.imp fun F1 L1 H1 S1 d e1 k1 q1 v r1 => ?_⟩
      have q2 := Rn.now (a := [d]) q1 k1
      cases d <;> (first | exact False.elim q2 | skip)
      have r1 : Pk D.C F1 L1 H1 v _ := r1
      cases r1 with
      | rep r =>
        cases r with
        | prg hF hT' z r s1 s2 =>
          refine ⟨_, _, _, rfl, k1.sub _ _ hF, rfl, F1, L1, S1, _, k1, .cons (.prg hF hT' z r s1 s2) .nil, ?_⟩
          simp only [lenpF] at q2
          generalize hg : f [_] S1 = g at q2 ⊢
          cases g with
          | exc x s => exact False.elim q2
          | stuck => exact False.elim q2
          | ok d s =>
            simp only [R.nox_ok, R.bind_ok] at q2
            cases d <;> (first | exact False.elim q2 | skip)
            rename_i nn
            by_cases hn : (decide (0 ≤ nn) && decide (nn < 2 ^ 63)) = true
            · dsimp only at q2
              rw [if_pos hn] at q2
              simp only [Bool.and_eq_true, decide_eq_true_eq] at hn
              intro F3 L3 H3 x3 k3 v3 r3
              have r3' : Rep D.C F3 L3 v3 (.int nn) := by cases fr <;> simpa [Vok, lvOf, isFr] using r3
              cases r3'
              exact ⟨nn, rfl, hn, q2 _ _ _ x3 k3 _ (Vok.re rfl (.int nn))⟩
            · dsimp only at q2
              rw [if_neg hn] at q2
              exact False.elim q2
    · cases hmt
  · cases hmt⟩
end MP

/-! MPK: instances that are cells: made, fields read, lists in fields. -/
namespace MP
open PySem PySem.Spec PyProof.Rows L2
section
variable {C : Cn} {F : Hp} {L : List Addr} {H : Hp} {S : Sto}
theorem Ok.addCell {p : Addr} {c : Cell} (k : Ok C F L H S) (f : F p = none) (l : p ∉ L) (hc : CellOk C F (L ++ [p]) H p c) : Ok C F (L ++ [p]) H (S ++ [c]) where
  sub := k.sub
  fl := fun b hb => by
    rcases List.mem_append.mp hb with hb | hb
    · exact k.fl b hb
    · rw [List.mem_singleton.mp hb]; exact f
  nd := by
    rw [List.nodup_append]
    exact ⟨k.nd, by simp, fun b hb c hc => by rw [List.mem_singleton.mp hc]; rintro rfl; exact l hb⟩
  len := by simp [k.len]
  cells := fun m c' hc' => by
    have pre : L <+: L ++ [p] := List.prefix_append _ _
    by_cases hm : m < S.length
    · rw [List.getElem?_append_left hm] at hc'
      obtain ⟨b, h1, h2⟩ := k.cells m c' hc'
      exact ⟨b, pre_get pre h1, h2.up (Sub.refl _) pre rfl⟩
    · rw [List.getElem?_append_right (by omega)] at hc'
      have h0 : m - S.length = 0 := by
        cases hh : m - S.length with
        | zero => rfl
        | succ j => rw [hh] at hc'; simp at hc'
      rw [h0] at hc'
      cases hc'
      have hm' : m = L.length := by have := k.len; omega
      exact ⟨p, by rw [hm', List.getElem?_append_right (Nat.le_refl _)]; simp, hc⟩
theorem Ext.addL {p : Addr} {H' : Hp} (e : Ext F L H F L H') (n : H p = none) : Ext F L H F (L ++ [p]) H' :=
  ⟨e.ff, e.ll.trans (List.prefix_append _ _), e.keep, e.there, e.nF, fun b hb => by
    rcases List.mem_append.mp hb with hb | hb
    · exact e.nL b hb
    · rw [List.mem_singleton.mp hb]; exact .inr n⟩
theorem Ok.newIns {x dx : Addr} (k : Ok C F L H S) (hx : H x = none) (hdx : H dx = none) (hne : dx ≠ x) :
    Ok C F (L ++ [x]) (upd (upd H dx (.own x)) x (.ins (C.cI 0) dx [])) (S ++ [.ins 0 []]) ∧ Ext F L H F (L ++ [x]) (upd (upd H dx (.own x)) x (.ins (C.cI 0) dx [])) ∧ Rep C F (L ++ [x]) (.ref x) (.ref S.length) := by
  have hx2 : (upd H dx (.own x)) x = none := by rw [upd_ne hne.symm]; exact hx
  have k2 := (k.laid (o := .own x) hdx).laid (o := .ins (C.cI 0) dx []) hx2
  have e2 := (((Ext.refl F L H).laid (o := .own x) hdx).laid (o := .ins (C.cI 0) dx []) hx2)
  refine ⟨k2.addCell (k.notF hx) (k.notL hx) (.ins upd_same .nil (by simp)), e2.addL hx, .ref ?_⟩
  rw [← k.len, List.getElem?_append_right (Nat.le_refl _)]; simp
end
/-- a new instance, its __init__ run -/
def newCF (f : FS) : FS := fun ds s => match f (.ref s.length :: ds) (s ++ [.ins 0 []]) with
  | .ok d s' => (match d with
    | .non => .ok (.ref s.length) s'
    | _ => .stuck)
  | .exc x s' => .exc x s'
  | .stuck => .stuck
theorem newC_ok {D : Wd} {k n : Nat} {x : Str} {f : Addr} {fd : FuncData} {ps : List Str} {g : FS} (M : Mk D.C.K (D.C.cI 0) f) (hm : D.mg x = some (.ref (D.C.cI 0))) (hb : Binds D.C.K fd ps []) (F : FnKx D k (n + 2) false g f fd ps) : FIK D (k + 1) (.hk (hkNew x (n + 1))) (newCF g) := fun A hr => ⟨fun X W ex es ms hB hK hc hu tk hmt pl => by
  have e1 : X.prog = D.P := congrArg Bs.prog hB
  have e2 : X.w = D.w := congrArg Bs.w hB
  have e3 : X.K = D.C.K := congrArg Bs.K hB
  have e4 : X.mg = D.mg := congrArg Bs.mg hB
  have e5 : X.base = D.base := congrArg Bs.base hB
  have e6 : X.A = A := congrArg Bs.A hB
  obtain ⟨p, pos, rfl, h1, h2, h3⟩ := hkNew_some hmt
  have hg := h1
  simp only [glB, Bool.and_eq_true, decide_eq_true_eq] at hg
  have hp := pl.pa h3
  have hl := pl.len
  match es, h2, h3, hp, hl with
  | z :: zs, h2, h3, hp, hl =>
      simp only [List.all_cons, Bool.and_eq_true] at h3
      have F' : FnOk X.prog X.w X.K X.mg X.base (L2.CX X.prog X.w) k f fd ps (spD D.C (n + 2) false g) := by rw [e1, e2, e3, e4, e5]; exact F
      have mk := pe_makeS (X := X) (pos := pos) (p := p) (E := WE W) (by rw [e3]; exact M) F' (by rw [e6]; exact hr) hg.1 (by rw [e4]; exact hm) (by rw [e3]; exact hb) (fun σ => passAt tk σ) hp (gl_dbg h1) (star_cons h3.1) (star_none h3.2)
      refine PE.imp mk fun σ H Q ⟨F1, L, S, ρ, kk, en, q⟩ => ⟨F1, L, S, ρ, kk, en, ?_⟩
      dsimp only at q
      cases e : ms ρ S with
      | exc y s => rw [e] at q; exact q
      | stuck => rw [e] at q; exact q
      | ok ds S' =>
        rw [e] at q
        intro F2 M2 H2 x2 k2 vs r2 a dx na ndx ne
        simp only [R.bind_ok] at q
        have l3 := hl _ _ _ _ e
        obtain ⟨k3, x3, r3⟩ := k2.newIns na ndx ne
        refine ⟨?_, F2, M2 ++ [a], S' ++ [.ins 0 []], .ref S'.length :: ds, k3, .cons r3 (r2.up x3.ff x3.ll), ?_⟩
        · rw [List.length_cons, r2.length, l3, h2]
        unfold newCF at q
        cases ev : g (.ref S'.length :: ds) (S' ++ [.ins 0 []]) with
        | exc y s =>
          rw [ev] at q
          exact fun F' L' H' dx' x4 k4 o => q F' L' H' dx' (x2.trans (x3.trans x4)) k4 o
        | stuck => rw [ev] at q; exact False.elim q
        | ok d S2 =>
          rw [ev] at q
          dsimp only at q
          cases d <;> (first | exact False.elim q | skip)
          intro F' L' H' x4 k4 v rv
          have rv : Rep D.C F' L' v .non := rv
          cases rv
          exact ⟨rfl, q F' L' H' (x2.trans (x3.trans x4)) k4 _ (r3.up x4.ff x4.ll)⟩
  ⟩
/-- a.f, a field of an instance that is a cell -/
def hkF (f : Str) : Hook := ⟨fun _ ex => match ex with | .Attribute a n _ => if decide (n = f) && notCall0 a then some [a] else none | _ => none, .rep, .rep⟩
def cfldF (f : Str) : FS := fun ds s => match ds with
  | [x] => (match insAt s x with
    | some gs => R.of (gs.lookup f) s
    | none => .stuck)
  | _ => .stuck
theorem cfld_ok {D : Wd} {k : Nat} {f : Str} (hc : Cls D.C.K (D.C.cI 0)) (hn : NoAttr D.C.K (D.C.cI 0) f) : FIK D k (.hk (hkF f)) (cfldF f) := fun A hr => ⟨fun X W ex es ms hB hK hcm hu tk hmt pl => by
  have e3 : X.K = D.C.K := congrArg Bs.K hB
  simp only [hkF] at hmt
  split at hmt
  · split at hmt
    · rename_i h
      simp only [Bool.and_eq_true, decide_eq_true_eq] at h
      obtain ⟨rfl, h⟩ := h
      cases hmt
      cases pl with
      | cons pe q =>
      cases q
      refine PE.imp (pe_fld pe (ab_of h)) fun σ H Q ⟨F, L, S, ρ, k, en, q⟩ => ⟨F, L, S, ρ, k, en, q.bind.bind.imp fun F1 L1 H1 S1 d e1 k1 q1 v r1 => ?_⟩
      have q2 := Rn.now (a := [d]) q1 k1
      have r1 : Rep D.C F1 L1 v d := r1
      simp only [cfldF] at q2
      cases ei : insAt S1 d with
      | none => rw [ei] at q2; exact False.elim q2
      | some gs =>
        rw [ei] at q2
        dsimp only at q2
        obtain ⟨y, hy, q3⟩ := q2.of
        obtain ⟨n, a, dx, fs, rfl, rfl, hL, hS, hH, hf, hz⟩ := insAt_ok k1 r1 ei
        obtain ⟨w, hw, rw'⟩ := flds_some hf hy
        exact ⟨a, _, dx, fs, w, rfl, hH, by rw [e3]; exact hc, by rw [e3]; exact hn, hw, q3.now k1 _ rw'⟩
    · cases hmt
  · cases hmt⟩
/-- a.pop(), a a list that is a cell -/
def hkCPop : Hook := ⟨fun _ ex => match ex with | .Call (.Attribute a n ap) [] [] cp => if decide (n = ("pop" : Str)) && notCall0 a && decide (ap.endLine = cp.line) then some [a] else none | _ => none, .rep, .rep⟩
def cpopF : FS := fun ds s => match ds with
  | [.ref n] => (match cellAt s (.ref n) with
    | some xs => (match xs[xs.length - 1]? with
      | some y => .ok y (s.set n (.lst xs.dropLast))
      | none => .stuck)
    | none => .stuck)
  | _ => .stuck
theorem cpop_ok {D : Wd} {k : Nat} : FIK D k (.hk hkCPop) cpopF := fun A hr => ⟨fun X W ex es ms hB hK hcm hu tk hmt pl => by
  simp only [hkCPop] at hmt
  split at hmt
  · split at hmt
    · rename_i h
      simp only [Bool.and_eq_true, decide_eq_true_eq] at h
      obtain ⟨⟨rfl, h⟩, h2⟩ := h
      cases hmt
      cases pl with
      | cons pe q =>
      cases q
      refine PE.imp (pe_bm0 PySem.F.plainAttrs_list PySem.F.slot_list_pop PySem.F.type_list_pop mt_pop pe (ab_of h) (by simpa using h2)) fun σ H Q ⟨F, L, S, ρ, k, en, q⟩ => ⟨F, L, S, ρ, k, en, q.bind.bind.imp fun F1 L1 H1 S1 d e1 k1 q1 v r1 => ?_⟩
      have q2 := Rn.now (a := [d]) q1 k1
      have r1 : Rep D.C F1 L1 v d := r1
      cases d <;> (first | exact False.elim q2 | skip)
      rename_i n _
      simp only [cpopF] at q2
      cases ec : cellAt S1 (.ref n) with
      | none => rw [ec] at q2; exact False.elim q2
      | some xs =>
        rw [ec] at q2
        dsimp only at q2
        cases el : xs[xs.length - 1]? with
        | none => rw [el] at q2; exact False.elim q2
        | some y =>
          rw [el] at q2
          dsimp only at q2
          obtain ⟨n', p, vs, e, rfl, hL, hS, hH, hz, rr⟩ := cellAt_ok k1 r1 ec
          cases e
          have ll := rr.length
          obtain ⟨w, hw, rw'⟩ := rr.get el
          obtain ⟨a1, a2⟩ := k1.cset hL (vs := vs.dropLast) (xs := xs.dropLast) (by rw [List.length_dropLast]; omega) rr.dropLast (by rw [hH]; simp)
          exact ⟨.inl ⟨rfl, vs, SqL.of hH⟩, p, vs, w, rfl, rfl, hH, by rw [ll]; exact hw, q2 _ _ _ a2 a1 _ (rw'.up a2.ff a2.ll)⟩
    · cases hmt
  · cases hmt⟩
end MP

/-! MP: what the head tells. -/
namespace MP
open PySem PySem.Spec PyProof.Rows L2
def tupKB (K : PySem.W.Frag) (x : Str) (ys : List Str) : Bool := match K.lookup (He.ga K x) with
  | some ⟨.type c, none, .seq its _, _⟩ => decide (c = "tuple") && (decide (its.size ≤ sizeLine) && He.relAll (ys.map V.str) its.toList)
  | _ => false
theorem tupKB_ok {K : PySem.W.Frag} {mg : Str → Option Value} {x : Str} {ys : List Str} (h : tupKB K x ys = true) (hm : mg x = some (.ref (He.ga K x))) : TupK K mg x ys := by
  unfold tupKB at h
  split at h
  · rename_i c its n sl e
    simp only [Bool.and_eq_true, decide_eq_true_eq] at h
    obtain ⟨rfl, h2, h3⟩ := h
    exact ⟨_, _, its, n, hm, e, rfl, rfl, rfl, h2, He.relAll_ok h3⟩
  · cases h
structure Fx (fa : List He.Fa) (fn : List He.DefD) (ex : PySem.W.Frag → Bool) (file : Str) (D : Wd) : Prop where
  t : He.SaysD fa fn D.C.K
  e : ex D.C.K = true
  gl : ∀ x : Str, (He.Fa.glo x).ok D.C.K = true → D.mg x = some (.ref (He.ga D.C.K x))
  fr : ∀ x : Str, (He.Fa.free x).ok D.C.K = true → D.mg x = none
  int : ∀ (x : Str) (i : Int), (He.Fa.int x i).ok D.C.K = true → ∃ t, D.mg x = some (.int i t)
  str : ∀ (x z : Str), (He.Fa.str x z).ok D.C.K = true → ∃ t, D.mg x = some (.str z t)
  cP : D.C.cP = He.ga D.C.K "Program"
  cx : D.C.cx = cxA D.C.K
  file : D.P.main.file = file
  top : (D.P.main.scope.names.lookup ("super" : Str)).isSome = false
  cI : D.C.cI = fun _ => He.ga D.C.K "Desk"
theorem fx_nm {fa : List He.Fa} {fn : List He.DefD} {ex : PySem.W.Frag → Bool} {file : Str} {D : Wd} (X : Fx fa fn ex file D) {x : Str} {c : Nat} (he : cxNames.getD c "" = x) (g : D.mg x = some (.ref (He.ga D.C.K x))) : D.mg x = some (.ref (D.C.cx c)) := by
  rw [X.cx]
  unfold cxA
  rw [he]
  exact g
theorem fx_exc {fa : List He.Fa} {fn : List He.DefD} {ex : PySem.W.Frag → Bool} {file : Str} {D : Wd} (X : Fx fa fn ex file D) {x : Str} {c n : Nat} (h : excB file D.C.K (cxA D.C.K c) n (xfN c) = true) (he : cxNames.getD c "" = x) (g : D.mg x = some (.ref (He.ga D.C.K x))) (hs : D.mg "super" = none) {f : FS} : FIK D 2 (.exc x c n) f :=
  fun A hr => exc_at (by rw [X.file, X.cx]; exact h) (fx_nm X he g) hs X.top hr
theorem fx_xc {fa : List He.Fa} {fn : List He.DefD} {ex : PySem.W.Frag → Bool} {file : Str} {D : Wd} (X : Fx fa fn ex file D) {xc : List (Str × Nat)} (h : xcB D.C.K (cxA D.C.K) xc = true) (hn : ∀ p ∈ xc, cxNames.getD p.2 "" = p.1) (g : ∀ p ∈ xc, D.mg p.1 = some (.ref (He.ga D.C.K p.1))) : XcOk D.C D.C.K D.mg xc :=
  xcB_ok (by rw [X.cx]; exact h) fun p hp => fx_nm X (hn p hp) (g p hp)
/-! the hook: the statics stand in the frame, too -/
def frY (g : Addr → Option Obj) (n : Nat) : PySem.W.Frag := match g cStatics with
  | some o => (cStatics, o) :: He.frT g (He.asD g n)
  | none => He.frT g (He.asD g n)
theorem frY_in {n : Nat} {h : Heap} : (frY h.get? n).In h := fun a o e => by
  unfold frY at e
  split at e
  · rename_i u hu
    by_cases ha : a = cStatics
    · subst ha
      rw [List.lookup_cons_self] at e
      cases e
      exact hu
    · refine He.frT_in (as := He.asD h.get? n) a o ?_
      rw [← e, List.lookup_cons, beq_false_of_ne ha]
  · exact He.frT_in a o e
def obsY (n : Nat) (fa : List He.Fa) (fn : List He.DefD) (ex : PySem.W.Frag → Bool) (g : Addr → Option Obj) : He.AlD × Bool := (He.obsD fa fn (frY g n), ex (frY g n))
def hookY (n : Nat) (fa : List He.Fa) (fn : List He.DefD) (ex : PySem.W.Frag → Bool) : PySem.W.Hook where
  α := He.AlD × Bool
  obs := fun s => obsY n fa fn ex s.heap.get?
  val := fun _ => (He.valD fn, true)
  says := fun _ h => ∃ K : PySem.W.Frag, K.In h ∧ He.SaysD fa fn K ∧ ex K = true
  of := fun _ _ e => ⟨_, frY_in, congrArg (fun z : He.AlD × Bool => z.1) e, congrArg (fun z : He.AlD × Bool => z.2) e⟩
  keeps := fun _ _ _ ⟨K, hK, c⟩ k => ⟨K, PySem.W.Frag.In.keeps hK k, c⟩
theorem obsY_eq {n : Nat} {fa : List He.Fa} {fn : List He.DefD} {ex : PySem.W.Frag → Bool} {g : Addr → Option Obj} {s : Shared} (h : ∀ a, g a = s.heap.get? a) : obsY n fa fn ex g = (hookY n fa fn ex).obs s := by
  have e : g = s.heap.get? := funext h
  rw [e] <;> rfl
theorem all_str {F : Hp} {L : List Addr} {C : Cn} : ∀ {ys : List Str}, ys.all sOk = true → RepAll C F L (ys.map V.str) (ys.map D.str)
  | [], _ => .nil
  | y :: ys, h => by
    simp only [List.all_cons, Bool.and_eq_true] at h
    exact .cons (.str _ h.1) (all_str h.2)
theorem tup_const {D : Wd} {k : Nat} {x : Str} {ys : List Str} (h : TupK D.C.K D.mg x ys) (hy : ys.all sOk = true) (hl : ys.length ≤ 1000) : FIK D k (.hk (hkG x)) (constF (.tup (ys.map .str))) := fun A hr => by
  obtain ⟨p, o, its, n, hm, hk, hc, hdd, hdt, hz, hv⟩ := h.ex
  refine hkG_ok (v := .ref p) hm rfl fun F L => .tup (vs := ys.map V.str) (.inr ⟨o, its, n, hk, hc, hdt, hz, hv⟩) ?_ (all_str hy)
  rw [List.length_map, sizeBIG]
  exact Nat.le_trans hl (by decide)
theorem str_const {D : Wd} {k : Nat} {x z : Str} (h : ∃ t, D.mg x = some (.str z t)) (hz : sOk z = true) : FIK D k (.hk (hkG x)) (constF (.str z)) := fun A hr => by
  obtain ⟨t, h⟩ := h
  exact hkG_ok (v := .str z) h ⟨t, rfl⟩ fun F L => .str _ hz
theorem int_const {D : Wd} {k : Nat} {x : Str} {i : Int} (h : ∃ t, D.mg x = some (.int i t)) : FIK D k (.hk (hkG x)) (constF (.int i)) := fun A hr => by
  obtain ⟨t, h⟩ := h
  exact hkG_ok (v := .int i) h ⟨t, rfl⟩ fun F L => .int _
/-- the law's own call -/
theorem law_sp {C : Cn} {f : FS} {a : Addr} {H : Hp} {ns : List Int} {S' : Sto} {n : Nat} (hn : n ≤ sizeLine) (hl : ns.length ≤ n) (hS : SqL C.K H a (ns.map V.int)) (hO : Only H) (h : f [.scr ns] [] = .ok (.bl true) S') : spD C 1 true f [.ref a] H (fun v _ => v = .bl true) fun _ _ _ => False := by
  refine ⟨rfl, H, [], [], [.scr ns], ⟨fun _ _ h => h, fun _ h => by simp at h, List.nodup_nil, rfl, fun n c h => by simp at h⟩, .cons (.scr hS (Nat.le_trans hl hn)) .nil, ?_⟩
  rw [h]
  intro F' L' H' _ _ v r
  have r : Rep C F' L' v (.bl true) := by simpa [Vok, lvOf, isFr] using r
  cases r
  rfl
/-- the law's end, what may be let out told by the world -/
theorem walkW {l : PySem.W.OpenLaw} {n k : Nat} {q : Program} {loose : List Str} {XP : (Str → Option Value) → Heap → Prop} {YP : World → Heap → Prop} {d : DefRec} {x : Str} (hn : l.most = some n) (hn2 : n ≤ sizeLine) (hdf : d.params.defaults = []) (hr : Room k callerA)
    (F : ∀ (w : World) (mg : Str → Option Value) (fa : Addr) (h : Heap), YP w h → h.Ns mainGlobals mg → mg d.name = some (.ref fa) → ∃ (K : PySem.W.Frag) (fd : FuncData) (sp : Sp), K.In h ∧ (∀ (s : Shared) (u : Value), BindsTo s fd ⟨[u], []⟩ [(x, u)]) ∧
      (∀ (H : Hp) (a : Addr) (ns : List Int), ns.length ≤ n → Only H → SqL K H a (ns.map V.int) → sp [.ref a] H (fun v _ => v = .bl true) fun _ _ _ => False) ∧ ∀ base : Heap, K.In base → base.Ns mainGlobals mg → FnOk l.prog w K mg base (L2.CX l.prog w) k fa fd [x] sp) :
    PySem.W.WalkO q loose XP YP l.row.toRowW d [] (fun f vs => PySem.call f vs) := by
  refine Att.attach_call hn hdf fun w s0 s1 mg mb fa o pm cd doc a vs ns G Y ho hd hcd hmg hobj hints hlen hg => ?_
  obtain ⟨K, fd, sp, KX, hb, hsp, hF⟩ := F w mg fa _ Y G.T.g hmg
  refine law_call KX G.T.g G.T.b G.T.builtins G.T.nolimit hg hobj hints (Nat.le_trans hlen hn2) hr hF hb (fun H hO hS => hsp H a ns hlen hO hS) fun H e s' hx => ?_
  obtain ⟨_, _, _, _, _, _, _, _, _, _, _, _, z⟩ := hx
  exact z
theorem noCX {P : Program} {w : World} (H : Hp) (s : Shared) (e : Value) (s' : Shared) (h : L2.CX P w [] H s (fun _ _ _ => False) e s') : False := by
  obtain ⟨_, _, _, _, _, _, _, _, _, _, _, _, z⟩ := h
  exact z
end MP

/-! MP: the evaluator worked out by simp. -/
namespace MP
open PySem
theorem nrfl {α : Sort _} {a b : α} (h : a = b) : a = b := h
theorem atI_of {α : Type} {xs : List α} {i : Nat} {x : α} (h : xs[i]? = some x) : L2.atI xs (i : Int) = some x := by
  unfold L2.atI L2.ixN
  have := (List.getElem?_eq_some_iff.mp h).1
  rw [if_pos (by omega), if_pos (by omega)]
  simpa using h
theorem atI_0 {α : Type} (x : α) (xs : List α) : L2.atI (x :: xs) 0 = some x := atI_of (i := 0) rfl
theorem atI_1 {α : Type} (x y : α) (xs : List α) : L2.atI (x :: y :: xs) 1 = some y := atI_of (i := 1) rfl
theorem atI_2 {α : Type} (x y z : α) (xs : List α) : L2.atI (x :: y :: z :: xs) 2 = some z := atI_of (i := 2) rfl
theorem atI_3 {α : Type} (x y z w : α) (xs : List α) : L2.atI (x :: y :: z :: w :: xs) 3 = some w := atI_of (i := 3) rfl
theorem atI_pos {α : Type} {xs : List α} {i : Int} (h0 : 0 ≤ i) (h : i < xs.length) : ∃ x, L2.atI xs i = some x ∧ xs[i.toNat]? = some x := by
  obtain ⟨n, rfl⟩ := Int.eq_ofNat_of_zero_le h0
  have h' : n < xs.length := by omega
  exact ⟨xs[n], atI_of (List.getElem?_eq_getElem h'), by simp⟩
theorem ixN_pos {n : Nat} {i : Int} (h0 : 0 ≤ i) (h : i < n) : L2.ixN n i = some i.toNat := by
  unfold L2.ixN
  rw [if_pos h0, if_pos h]
section
variable (i j : Int) (x y : Str) (xs ys : List D) (a b : D) (s : Sto) (n : Nat)
theorem s_len1 : dBlt .len [.lst xs] = some (.int xs.length) := rfl
theorem s_len2 : dBlt .len [.tup xs] = some (.int xs.length) := rfl
theorem s_len3 : dBlt .len [.str x] = some (.int x.length) := rfl
theorem s_int1 : dBlt .int [.int i] = some (.int i) := rfl
theorem s_int2 (b : Bool) : dBlt .int [.bl b] = some (.int (if b then 1 else 0)) := rfl
theorem s_list1 : dBlt .list [.lst xs] = some (.lst xs) := rfl
theorem s_list2 : dBlt .list [.tup xs] = some (.lst xs) := rfl
theorem s_list3 (ns : List Int) : dBlt .list [.scr ns] = some (.lst (ns.map .int)) := rfl
theorem s_tup1 : dBlt .tuple [.lst xs] = some (.tup xs) := rfl
theorem s_tup2 : dBlt .tuple [.tup xs] = some (.tup xs) := rfl
theorem s_max : dBlt .max2 [.int i, .int j] = some (.int (if j > i then j else i)) := rfl
theorem s_add1 : dBin .add (.int i) (.int j) = some (.int (i + j)) := rfl
theorem s_add2 : dBin .add (.str x) (.str y) = MP.mkStr (x ++ y) := rfl
theorem s_add3 : dBin .add (.lst xs) (.lst ys) = mkLst (xs ++ ys) := rfl
theorem s_add4 : dBin .add (.tup xs) (.tup ys) = mkTup (xs ++ ys) := rfl
theorem s_sub : dBin .sub (.int i) (.int j) = some (.int (i - j)) := rfl
theorem s_mul : dBin .mul (.int i) (.int j) = if small i || small j then some (.int (i * j)) else none := rfl
theorem s_mod : dBin .mod (.int i) (.int j) = if decide (0 < j) then some (.int (i % j)) else none := rfl
theorem s_fdiv : dBin .fdiv (.int i) (.int j) = if decide (0 < j) && decide (j < 1073741824) then some (.int (i / j)) else none := rfl
theorem s_lt : dCmp .lt (.int i) (.int j) = some (decide (i < j)) := rfl
theorem s_le : dCmp .le (.int i) (.int j) = some (decide (i ≤ j)) := rfl
theorem s_gt : dCmp .gt (.int i) (.int j) = some (decide (j < i)) := rfl
theorem s_ge : dCmp .ge (.int i) (.int j) = some (decide (j ≤ i)) := rfl
theorem s_ix1 : dIdx (.tup xs) (.int i) = L2.atI xs i := rfl
theorem s_ix2 : dIdx (.lst xs) (.int i) = L2.atI xs i := rfl
theorem s_cget : cGet s a (.int i) = (cellAt s a).bind fun xs => L2.atI xs i := rfl
theorem s_clen : cLen s a = (cellAt s a).map fun xs => .int xs.length := rfl
theorem s_ccat : cCat s a (.lst ys) = (cellAt s a).bind fun xs => mkLst (xs ++ ys) := rfl
theorem s_csetL : cSet s (.ref n) (.int i) b = (cellAt s (.ref n)).bind fun xs => (L2.ixN xs.length i).map fun j => s.set n (.lst (xs.set j b)) := rfl
theorem s_cell0 (c : Sto) : cellAt (.lst xs :: c) (.ref 0) = some xs := rfl
theorem s_cell1 (c : Sto) (d : Cell) : cellAt (d :: .lst xs :: c) (.ref 1) = some xs := rfl
theorem s_truth (b : Bool) : (D.bl b).truth = some b := rfl
theorem s_mkL (h : xs.length ≤ BIG) : mkLst xs = some (.lst xs) := if_pos h
theorem s_mkT (h : xs.length ≤ BIG) : mkTup xs = some (.tup xs) := if_pos h
theorem s_bind {α β : Type} (a : α) (f : α → Option β) : (some a).bind f = f a := rfl
theorem s_map {α β : Type} (a : α) (f : α → β) : (some a).map f = some (f a) := rfl
theorem s_pow18 : dBin .pow (.int 10) (.int 18) = some (.int 1000000000000000000) := by
  show (if decide ((0 : Int) ≤ 18) && decide ((18 : Int) ≤ 1000000) && decide ((10 : Int).natAbs < 2 ^ 64) then some (D.int (10 ^ (18 : Int).toNat)) else none) = _
  rw [if_pos (by decide)]
  rfl
end
section
variable (fn : Nat → FS) (ρ : Env') (s : Sto)
/-- a for, its turns closed -/
def forS (fn : Nat → FS) (tg : Tg) (body : List St) (ds : List D) (ρ : Env') (s : Sto) : RS := forLoop (fun d ρ s => RS.of (R.of (bindTg ρ tg d) s) ρ fun ρ' s => evSs fn ρ' body s) ds ρ s
def compS (fn : Nat → FS) (own : List Nat) (tg : Tg) (ifs : Option E) (elt : E) (ρ : Env') (ds : List D) (s : Sto) : R (List D) := compLoop (fun d s => (R.of (bindTg (wipeE ρ own) tg d) s).bind fun ρ' s => (evIf fn ρ' ifs s).bind fun t s => if t then (evE fn ρ' elt s).bind fun e s => .ok (some e) s else .ok none s) ds s
def dcompS (fn : Nat → FS) (own : List Nat) (tg : Tg) (key val : E) (ρ : Env') (ds : List D) (s : Sto) : R (List (D × D)) := dcompLoop (fun d s => (R.of (bindTg (wipeE ρ own) tg d) s).bind fun ρ' s => (evE fn ρ' key s).bind fun k s => (evE fn ρ' val s).bind fun v s => .ok (k, v) s) [] ds s
theorem e_lit (d : D) : evE fn ρ (.lit d) s = (.ok d s) := rfl
theorem e_glob (u0 : Str) (d : D) : evE fn ρ (.glob u0 d) s = (.ok d s) := rfl
theorem e_var (i : Nat) : evE fn ρ (.var i) s = (R.of (immAt ρ i) s) := rfl
theorem e_pk (i : Nat) : evE fn ρ (.pk i) s = (R.of (pkAt ρ i) s) := rfl
theorem e_tup (es : List E) : evE fn ρ (.tup es) s = ((evEs fn ρ es s).bind fun ds s => R.of (mkTup ds) s) := rfl
theorem e_lst (es : List E) : evE fn ρ (.lst es) s = ((evEs fn ρ es s).bind fun ds s => R.of (mkLst ds) s) := rfl
theorem e_bin (o : BO) (a : E) (b : E) : evE fn ρ (.bin o a b) s = ((evE fn ρ a s).bind fun x s => (evE fn ρ b s).bind fun y s => R.of (dBin o x y) s) := rfl
theorem e_star (u0 : E) : evE fn ρ (.star u0) s = (.stuck) := rfl
theorem e_neg (a : E) : evE fn ρ (.neg a) s = ((evE fn ρ a s).bind fun x s => match x with | .int i => .ok (.int (-i)) s | _ => .stuck) := rfl
theorem e_cmp (o : CO) (a : E) (b : E) : evE fn ρ (.cmp o a b) s = ((evE fn ρ a s).bind fun x s => (evE fn ρ b s).bind fun y s => R.of ((dCmp o x y).map .bl) s) := rfl
theorem e_isN (n : Bool) (a : E) : evE fn ρ (.isN n a) s = ((evE fn ρ a s).bind fun x s => .ok (.bl (isNb n x)) s) := rfl
theorem e_chain (o : CO) (p : CO) (a : E) (b : E) (c : E) : evE fn ρ (.chain o p a b c) s = ((evE fn ρ a s).bind fun x s => (evE fn ρ b s).bind fun y s => (R.of (dCmp o x y) s).bind fun t s =>
         if t then (evE fn ρ c s).bind fun z s => R.of ((dCmp p y z).map .bl) s else .ok (.bl false) s) := rfl
theorem e_and (a : E) (b : E) : evE fn ρ (.and a b) s = ((evE fn ρ a s).bind fun x s => (R.of x.truth s).bind fun t s => if t then evE fn ρ b s else .ok x s) := rfl
theorem e_or (a : E) (b : E) : evE fn ρ (.or a b) s = ((evE fn ρ a s).bind fun x s => (R.of x.truth s).bind fun t s => if t then .ok x s else evE fn ρ b s) := rfl
theorem e_not (a : E) : evE fn ρ (.not a) s = ((evE fn ρ a s).bind fun x s => R.of (dNot x) s) := rfl
theorem e_ite (c : E) (a : E) (b : E) : evE fn ρ (.ite c a b) s = ((evE fn ρ c s).bind fun x s => (R.of x.truth s).bind fun t s => if t then evE fn ρ a s else evE fn ρ b s) := rfl
theorem e_idx (a : E) (i : E) : evE fn ρ (.idx a i) s = ((evE fn ρ a s).bind fun x s => (evE fn ρ i s).bind fun y s => R.of (dIdx x y) s) := rfl
theorem e_slice (a : E) (lo : Option E) (hi : Option E) : evE fn ρ (.slice a lo hi) s = ((evE fn ρ a s).bind fun x s => (evO fn ρ lo s).bind fun l s => (evO fn ρ hi s).bind fun h s => R.of (dSlice x l h) s) := rfl
theorem e_fld (f : Fld) (a : E) : evE fn ρ (.fld f a) s = ((evE fn ρ a s).bind fun x s => R.of (dFld f x) s) := rfl
theorem e_call (f : Nat) (es : List E) : evE fn ρ (.call f es) s = ((evEs fn ρ es s).bind fun ds s => fn f ds s) := rfl
theorem e_blt (b : Blt) (es : List E) : evE fn ρ (.blt b es) s = ((evEs fn ρ es s).bind fun ds s => R.of (dBlt b ds) s) := rfl
theorem e_isi (ts : List Ty) (a : E) : evE fn ρ (.isi ts a) s = ((evE fn ρ a s).bind fun x s => R.of (isTys ts x) s) := rfl
theorem e_join (a : E) (e : E) : evE fn ρ (.join a e) s = ((evE fn ρ a s).bind fun x s => (R.of (asStr x) s).bind fun z s => (evE fn ρ e s).bind fun y s => R.of (dJoin z y) s) := rfl
theorem e_comp (own : List Nat) (tg : Tg) (src : Src) (ifs : Option E) (elt : E) : evE fn ρ (.comp own tg src ifs elt) s = ((evSrc fn ρ src s).bind fun ds s => (compS fn own tg ifs elt ρ ds s).bind fun es s => .ok (.lst es) s) := rfl
theorem e_dcomp (own : List Nat) (tg : Tg) (src : Src) (key : E) (val : E) : evE fn ρ (.dcomp own tg src key val) s = ((evSrc fn ρ src s).bind fun ds s => (dcompS fn own tg key val ρ ds s).bind fun es s => .ok (.dic es) s) := rfl
theorem e_dic0  : evE fn ρ (.dic0) s = (.ok (.dic []) s) := rfl
theorem e_cidx (u0 : Str) (ys : List Str) (a : E) : evE fn ρ (.cidx u0 ys a) s = ((evE fn ρ a s).bind fun x s => R.of (dCidx ys x) s) := rfl
theorem e_cell (a : E) : evE fn ρ (.cell a) s = ((evE fn ρ a s).bind newCell) := rfl
theorem e_cget (a : E) (i : E) : evE fn ρ (.cget a i) s = ((evE fn ρ a s).bind fun x s => (evE fn ρ i s).bind fun y s => R.of (cGet s x y) s) := rfl
theorem e_clen (a : E) : evE fn ρ (.clen a) s = ((evE fn ρ a s).bind fun x s => R.of (cLen s x) s) := rfl
theorem e_ccat (a : E) (b : E) : evE fn ρ (.ccat a b) s = ((evE fn ρ a s).bind fun x s => (evE fn ρ b s).bind fun y s => R.of (cCat s x y) s) := rfl
theorem v_asg (i : Nat) (e : E) : evS fn ρ (.asg i e) s = (RS.of (evE fn ρ e s) ρ fun d s => .nx (setI ρ i d) s) := rfl
theorem v_asgO (i : Nat) (e : E) : evS fn ρ (.asgO i e) s = (RS.of (evE fn ρ e s) ρ fun d s => if isFr d then .nx (setO ρ i d) s else .stuck) := rfl
theorem v_unp (is : List Nat) (e : E) : evS fn ρ (.unp is e) s = (RS.of (evE fn ρ e s) ρ fun d s => RS.of (R.of (bindTg ρ (.tup is) d) s) ρ fun ρ' s => .nx ρ' s) := rfl
theorem v_par (is : List (Bool × Nat)) (es : List E) : evS fn ρ (.par is es) s = (RS.of (evEs fn ρ es s) ρ fun ds s => RS.of (R.of (setPar ρ is ds) s) ρ fun ρ' s => .nx ρ' s) := rfl
theorem v_setI (i : Nat) (k : E) (e : E) : evS fn ρ (.setI i k e) s = (RS.of (R.of (lstOwn ρ i) s) ρ fun o s => RS.of (evE fn ρ e s) ρ fun d s => RS.of (evE fn ρ k s) ρ fun x s => RS.of (R.of (dSetI o x d) s) ρ fun o s => .nx (setO ρ i o) s) := rfl
theorem v_setK (i : Nat) (k : E) (e : E) : evS fn ρ (.setK i k e) s = (RS.of (R.of (dicOwn ρ i) s) ρ fun o s => RS.of (evE fn ρ e s) ρ fun d s => RS.of (evE fn ρ k s) ρ fun x s => RS.of (R.of (dSetK o x d) s) ρ fun o s => .nx (setO ρ i o) s) := rfl
theorem v_aug (i : Nat) (o : BO) (e : E) : evS fn ρ (.aug i o e) s = (RS.of (R.of (immAt ρ i) s) ρ fun x s => RS.of (evE fn ρ e s) ρ fun d s => RS.of (R.of (dAug o x d) s) ρ fun r s => .nx (setI ρ i r) s) := rfl
theorem v_app (i : Nat) (e : E) : evS fn ρ (.app i e) s = (RS.of (R.of (lstOwn ρ i) s) ρ fun xs s => RS.of (evE fn ρ e s) ρ fun d s => RS.of (R.of (dApp xs d) s) ρ fun o s => .nx (setO ρ i o) s) := rfl
theorem v_exp (e : E) : evS fn ρ (.exp e) s = (RS.of (evE fn ρ e s) ρ fun _ s => .nx ρ s) := rfl
theorem v_ret (e : E) : evS fn ρ (.ret e) s = (RS.of (evE fn ρ e s) ρ fun d s => .ret d s) := rfl
theorem v_retO (i : Nat) : evS fn ρ (.retO i) s = (RS.of (R.of (ownAt ρ i) s) ρ fun d s => .ret d s) := rfl
theorem v_retN  : evS fn ρ (.retN) s = (.ret .non s) := rfl
theorem v_ite (c : E) (a : List St) (b : List St) : evS fn ρ (.ite c a b) s = (RS.of (evE fn ρ c s) ρ fun x s => RS.of (R.of x.truth s) ρ fun t s => if t then evSs fn ρ a s else evSs fn ρ b s) := rfl
theorem v_for_ (tg : Tg) (src : Src) (body : List St) : evS fn ρ (.for_ tg src body) s = (RS.of (evSrc fn ρ src s) ρ fun ds s => forS fn tg body ds ρ s) := rfl
theorem v_pass  : evS fn ρ (.pass) s = (.nx ρ s) := rfl
theorem v_never  : evS fn ρ (.never) s = (.stuck) := rfl
theorem v_frz (i : Nat) (st : St) : evS fn ρ (.frz i st) s = (match ownAt ρ i with
       | some d => evS fn (setI ρ i d) st s
       | none => evS fn ρ st s) := rfl
theorem v_cset (a : E) (k : E) (e : E) : evS fn ρ (.cset a k e) s = (RS.of (evE fn ρ e s) ρ fun d s => RS.of (evE fn ρ a s) ρ fun x s => RS.of (evE fn ρ k s) ρ fun y s => RS.of (R.of (cSet s x y d) s) ρ fun s' _ => .nx ρ s') := rfl
theorem v_rais0 (k c : Nat) : evS fn ρ (.rais k c []) s = .exc ⟨c, none⟩ ρ s := nrfl rfl
theorem v_rais1 (k c : Nat) (e : E) : evS fn ρ (.rais k c [e]) s = (RS.of (evEs fn ρ [e] s) ρ fun ds s => match ds with
      | [d] => .exc ⟨c, some d⟩ ρ s
      | _ => .stuck) := nrfl rfl
theorem v_try (xs : List Nat) (body : List St) (hs : List Hdl) (orelse : List St) : evS fn ρ (.try_ xs body hs orelse) s = (match evSs fn ρ body s with
    | .nx ρ' s' => evSs fn ρ' orelse s'
    | .exc x ρ' s' => evHs xs x hs ρ' s'
    | .ret d s' => .ret d s'
    | .stuck => .stuck) := nrfl rfl
theorem v_lm (m : LM) (i : Nat) (es : List E) : evS fn ρ (.lm m i es) s = (RS.of (R.of (lstOwn ρ i) s) ρ fun xs s => RS.of (evEs fn ρ es s) ρ fun ds s => RS.of (R.of (lmF m xs ds) s) ρ fun p s => .nx (setO ρ i (.lst p.2)) s) := nrfl rfl
theorem v_lmTo (m : LM) (j i : Nat) (es : List E) : evS fn ρ (.lmTo m j i es) s = (RS.of (R.of (lstOwn ρ i) s) ρ fun xs s => RS.of (evEs fn ρ es s) ρ fun ds s => RS.of (R.of (lmF m xs ds) s) ρ fun p s => .nx (MP.setI (setO ρ i (.lst p.2)) j p.1) s) := nrfl rfl
theorem v_appLm (m : LM) (j i : Nat) (es : List E) : evS fn ρ (.appLm m j i es) s = (RS.of (R.of (lstOwn ρ j) s) ρ fun ys s => RS.of (R.of (lstOwn ρ i) s) ρ fun xs s => RS.of (evEs fn ρ es s) ρ fun ds s => RS.of (R.of (lmF m xs ds) s) ρ fun p s =>
      if i = j then .stuck else RS.of (R.of (dApp ys p.1) s) ρ fun o s => .nx (setO (setO ρ i (.lst p.2)) j o) s) := nrfl rfl
theorem v_tapp (e v : E) : evS fn ρ (.tapp e v) s = (RS.of (evE fn ρ e s) ρ fun x s => match x with
    | .lst xs => if xs.length < BIG then RS.of (evE fn ρ v s) ρ fun _ s => .nx ρ s else .stuck
    | _ => .stuck) := nrfl rfl
theorem v_whl (c : E) (body : List St) : evS fn ρ (.whl c body) s = (whlLoop (fun ρ s => (evE fn ρ c s).bind fun x s => R.of x.truth s) (fun ρ s => evSs fn ρ body s) BIG ρ s) := nrfl rfl
theorem e_call0 (k : Nat) : evE fn ρ (.call0 k) s = (match fn k [] s with
    | .ok d s => .ok d s
    | _ => .stuck) := nrfl rfl
theorem e_dm (m : Str) (k : Nat) (a : E) (es : List E) : evE fn ρ (.dm m k a es) s = ((evE fn ρ a s).bind fun x s => match insAt s x with
    | some fs => if (fs.lookup m).isNone then (evEs fn ρ es s).bind fun ds s => fn k (x :: ds) s else .stuck
    | none => .stuck) := nrfl rfl
theorem e_capp (a e : E) : evE fn ρ (.capp a e) s = ((evE fn ρ a s).bind fun x s => match cellAt s x with
    | some _ => (evE fn ρ e s).bind fun d s => match cApp s x d with
      | some s' => .ok .non s'
      | none => .stuck
    | none => .stuck) := nrfl rfl
theorem v_fset (k : Nat) (f : Str) (a e : E) : evS fn ρ (.fset k f a e) s = (RS.of (evE fn ρ e s) ρ fun d s => RS.of (evE fn ρ a s) ρ fun x s => RS.of (R.of (cFset s x f d) s) ρ fun s' _ => .nx ρ s') := nrfl rfl
theorem v_iadd (i k : Nat) (e : E) : evS fn ρ (.iadd i k e) s = (RS.of (R.of (immAt ρ i) s) ρ fun x s => RS.of (evE fn ρ e s) ρ fun d s => match insAt s x with
    | some _ => RS.of (fn k [x, d] s) ρ fun r s => .nx (MP.setI ρ i r) s
    | none => .stuck) := nrfl rfl
theorem e_callT (i k : Nat) (es : List E) : evE fn ρ (.callT i k es) s = (match ownAt ρ i with
    | some d => ((evEs fn (MP.setI ρ i d) es s).bind fun ds s1 => fn k ds s1).nox.bind fun r s2 => if r.flat && stoSame s s2 then .ok r s2 else .stuck
    | none => .stuck) := nrfl rfl
end

theorem s_eqI (i j : Int) : dCmp .eq (.int i) (.int j) = some (decide (i = j)) := by simp [dCmp, D.plain, D.eqv]; rw [Bool.eq_iff_iff]; simp
theorem s_neI (i j : Int) : dCmp .ne (.int i) (.int j) = some (!decide (i = j)) := by simp [dCmp, D.plain, D.eqv]; rw [Bool.eq_iff_iff]; simp
theorem s_eqS (i j : Str) : dCmp .eq (.str i) (.str j) = some (decide (i = j)) := by simp [dCmp, D.plain, D.eqv]; rw [Bool.eq_iff_iff]; simp
theorem s_neS (i j : Str) : dCmp .ne (.str i) (.str j) = some (!decide (i = j)) := by simp [dCmp, D.plain, D.eqv]; rw [Bool.eq_iff_iff]; simp
theorem nc0 : @Nat.cast Int instNatCastInt 0 = 0 := rfl
theorem nc1 : @Nat.cast Int instNatCastInt 1 = 1 := rfl
theorem nc2 : @Nat.cast Int instNatCastInt 2 = 2 := rfl
theorem nc3 : @Nat.cast Int instNatCastInt 3 = 3 := rfl
theorem nc4 : @Nat.cast Int instNatCastInt 4 = 4 := rfl
theorem nc5 : @Nat.cast Int instNatCastInt 5 = 5 := rfl
theorem nc6 : @Nat.cast Int instNatCastInt 6 = 6 := rfl
theorem nc7 : @Nat.cast Int instNatCastInt 7 = 7 := rfl
theorem nc8 : @Nat.cast Int instNatCastInt 8 = 8 := rfl
theorem nc9 : @Nat.cast Int instNatCastInt 9 = 9 := rfl
theorem s_it1 (xs : List D) : items (.lst xs) = some xs := rfl
theorem s_it2 (xs : List D) : items (.tup xs) = some xs := rfl
theorem s_it3 (ns : List Int) : items (.scr ns) = some (ns.map .int) := rfl
/-- it comes to a value -/
def Rs {α : Type} (r : R α) (P : α → Sto → Prop) : Prop := ∃ a s, r = .ok a s ∧ P a s
theorem Rs.ok {α : Type} {a : α} {s : Sto} {P : α → Sto → Prop} (h : P a s) : Rs (.ok a s) P := ⟨a, s, rfl, h⟩
theorem Rs.bind {α β : Type} {r : R α} {f : α → Sto → R β} {P : α → Sto → Prop} {Q : β → Sto → Prop} (h : Rs r P) (g : ∀ a s, P a s → Rs (f a s) Q) : Rs (r.bind f) Q := by
  obtain ⟨a, s, rfl, p⟩ := h
  exact g a s p
theorem Rs.imp {α : Type} {r : R α} {P Q : α → Sto → Prop} (h : Rs r P) (g : ∀ a s, P a s → Q a s) : Rs r Q := by
  obtain ⟨a, s, e, p⟩ := h
  exact ⟨a, s, e, g a s p⟩
theorem Rs.of {α : Type} {o : Option α} {s : Sto} {a : α} {P : α → Sto → Prop} (e : o = some a) (h : P a s) : Rs (R.of o s) P := ⟨a, s, by rw [e]; rfl, h⟩
/-- a statement's run: on with N, or back with P -/
def Rt (r : RS) (N : Env' → Sto → Prop) (P : D → Sto → Prop) : Prop := match r with
  | .nx ρ s => N ρ s
  | .ret d s => P d s
  | _ => False
theorem Rt.nx {ρ : Env'} {s : Sto} {N : Env' → Sto → Prop} {P : D → Sto → Prop} (h : N ρ s) : Rt (.nx ρ s) N P := h
theorem Rt.ret {d : D} {s : Sto} {N : Env' → Sto → Prop} {P : D → Sto → Prop} (h : P d s) : Rt (.ret d s) N P := h
theorem Rt.of {α : Type} {r : R α} {ρ : Env'} {f : α → Sto → RS} {Q : α → Sto → Prop} {N : Env' → Sto → Prop} {P : D → Sto → Prop} (h : Rs r Q) (g : ∀ a s, Q a s → Rt (f a s) N P) : Rt (RS.of r ρ f) N P := by
  obtain ⟨a, s, rfl, q⟩ := h
  exact g a s q
theorem Rt.seq {r : RS} {f : Env' → Sto → RS} {N M : Env' → Sto → Prop} {P : D → Sto → Prop} (h : Rt r M P) (g : ∀ ρ s, M ρ s → Rt (f ρ s) N P) : Rt (r.seq f) N P := by
  cases r with
  | nx ρ s => exact g ρ s h
  | ret d s => exact h
  | exc x ρ s => exact h.elim
  | stuck => exact h.elim
theorem Rt.imp {r : RS} {N M : Env' → Sto → Prop} {P Q : D → Sto → Prop} (h : Rt r M P) (g : ∀ ρ s, M ρ s → N ρ s) (g' : ∀ d s, P d s → Q d s) : Rt r N Q := by
  cases r with
  | nx ρ s => exact g ρ s h
  | ret d s => exact g' d s h
  | exc x ρ s => exact h.elim
  | stuck => exact h.elim
/-- a def by its body's run -/
theorem def_run {fn : Nat → FS} {n : Nat} {body : List St} {ds : List D} {s : Sto} {P : D → Sto → Prop} (h : Rt (evSs fn (startE n ds) body s) (fun _ s => P .non s) P) : Rs (evDef fn n body ds s) P := by
  unfold evDef
  cases e : evSs fn (startE n ds) body s with
  | nx ρ s => rw [e] at h; exact ⟨_, _, rfl, h⟩
  | ret d s => rw [e] at h; exact ⟨_, _, rfl, h⟩
  | exc x ρ s => rw [e] at h; exact h.elim
  | stuck => rw [e] at h; exact h.elim
/-- a for by an invariant over what is left -/
theorem forS_run {fn : Nat → FS} {tg : Tg} {body : List St} {P : D → Sto → Prop} (I : List D → Env' → Sto → Prop) (turn : ∀ d ds ρ s, I (d :: ds) ρ s → ∃ ρ', bindTg ρ tg d = some ρ' ∧ Rt (evSs fn ρ' body s) (I ds) P) : ∀ {ds : List D} {ρ : Env'} {s : Sto}, I ds ρ s → Rt (forS fn tg body ds ρ s) (I []) P
  | [], ρ, s, h => h
  | d :: ds, ρ, s, h => by
    obtain ⟨ρ', e, q⟩ := turn d ds ρ s h
    unfold forS
    simp only [forLoop, e, R.of_some, RS.of_ok]
    exact Rt.seq q fun ρ2 s2 h2 => forS_run I turn h2
/-- a list comprehension, item by item -/
theorem compS_run {fn : Nat → FS} {own : List Nat} {tg : Tg} {ifs : Option E} {elt : E} {ρ : Env'} {s : Sto} (g : D → Option D) : ∀ {ds : List D}, (∀ d ∈ ds, ∃ ρ', bindTg (wipeE ρ own) tg d = some ρ' ∧ ∃ t, evIf fn ρ' ifs s = .ok t s ∧ (if t = true then ∃ e, evE fn ρ' elt s = .ok e s ∧ g d = some e else g d = none)) → compS fn own tg ifs elt ρ ds s = .ok (ds.filterMap g) s
  | [], _ => rfl
  | d :: ds, h => by
    have ih := compS_run (ifs := ifs) (elt := elt) (ρ := ρ) (s := s) (own := own) (tg := tg) (fn := fn) g fun x hx => h x (List.mem_cons_of_mem d hx)
    obtain ⟨ρ', e, t, e2, e3⟩ := h d List.mem_cons_self
    unfold compS at ih ⊢
    simp only [compLoop, e, R.of_some, R.bind_ok, e2]
    cases t with
    | true =>
      simp only [if_true] at e3
      obtain ⟨y, e4, e5⟩ := e3
      simp only [if_true, e4, R.bind_ok, R.nox_ok, ih, List.filterMap_cons, e5]
    | false =>
      simp only [Bool.false_eq_true, if_false] at e3
      simp only [Bool.false_eq_true, if_false, R.nox_ok, R.bind_ok, ih, List.filterMap_cons, e3]
/-- a turn of a for -/
theorem forS_step {fn : Nat → FS} {tg : Tg} {body : List St} {d : D} {ds : List D} {ρ ρ' ρ2 : Env'} {s s2 : Sto} (h1 : bindTg ρ tg d = some ρ') (h2 : evSs fn ρ' body s = .nx ρ2 s2) : forS fn tg body (d :: ds) ρ s = forS fn tg body ds ρ2 s2 := by
  unfold forS
  simp only [forLoop, h1, R.of_some, RS.of_ok, h2, RS.seq_nx]
end MP

/-! PG: the defs as data. -/
namespace PG
open PySem PySem.Spec PyProof.Rows L2 MP
/-! is_integer -/
def N_is_integer : List Str := ["thing", "least", "most"]
def i_is_integer : List FI := []
def b_is_integer : List MP.St := [.ite (.or (.not (.isi [.int] (.var 0))) (.isi [.bool] (.var 0))) [.ret (.lit (.bl false))] [],
  .ret (.and (.or (.isN false (.var 1)) (.cmp .ge (.var 0) (.var 1))) (.or (.isN false (.var 2)) (.cmp .le (.var 0) (.var 2))))]
def F_is_integer : FS := evDef (fnL []) N_is_integer.length b_is_integer
/-! is_word -/
def N_is_word : List Str := ["thing", "words"]
def i_is_word : List FI := []
def b_is_word : List MP.St := [.ret (.and (.isi [.str] (.var 0)) (.cmp .in_ (.var 0) (.var 1)))]
def F_is_word : FS := evDef (fnL []) N_is_word.length b_is_word
/-! is_worth -/
def N_is_worth : List Str := ["thing"]
def i_is_worth : List FI := [.fn "is_integer" 3 true, .hk (hkG "MOST_NUMBER"), .fn "is_word" 2 true, .hk (hkG "AGGREGATES"), .hk (hkG "COLUMNS"), .hk (hkG "SCOPES")]
def b_is_worth : List MP.St := [.ite (.call 0 [.var 0, .neg (.call 1 []), .call 1 []]) [.ret (.lit (.bl true))] [],
  .ite (.or (.not (.isi [.tup] (.var 0))) (.or (.cmp .ne (.blt .len [.var 0]) (.lit (.int 4))) (.not (.call 2 [.idx (.var 0) (.lit (.int 0)), .call 3 []])))) [.ret (.lit (.bl false))] [],
  .ret (.and (.call 2 [.idx (.var 0) (.lit (.int 1)), .call 4 []]) (.and (.call 2 [.idx (.var 0) (.lit (.int 2)), .call 5 []]) (.isi [.bool] (.idx (.var 0) (.lit (.int 3))))))]
def F_is_worth : FS := evDef (fnL [F_is_integer, constF (.int 9), F_is_word, constF (.tup [.str "sum", .str "count"]), constF (.tup [.str "x", .str "y"]), constF (.tup [.str "all", .str "same", .str "ahead"])]) N_is_worth.length b_is_worth
/-! is_step -/
def N_is_step : List Str := ["thing"]
def i_is_step : List FI := [.fn "is_word" 2 true, .hk (hkG "COLUMNS"), .hk (hkG "WORDS"), .fn "is_worth" 1 true]
def b_is_step : List MP.St := [.ite (.or (.not (.isi [.tup] (.var 0))) (.or (.cmp .ne (.blt .len [.var 0]) (.lit (.int 3))) (.not (.isi [.str] (.idx (.var 0) (.lit (.int 0))))))) [.ret (.lit (.bl false))] [],
  .ite (.not (.call 0 [.idx (.var 0) (.lit (.int 1)), .call 1 []])) [.ret (.lit (.bl false))] [],
  .ite (.cmp .eq (.idx (.var 0) (.lit (.int 0))) (.lit (.str "add"))) [.ret (.call 0 [.idx (.var 0) (.lit (.int 2)), .call 1 []])] [],
  .ret (.and (.cmp .in_ (.idx (.var 0) (.lit (.int 0))) (.call 2 [])) (.call 3 [.idx (.var 0) (.lit (.int 2))]))]
def F_is_step : FS := evDef (fnL [F_is_word, constF (.tup [.str "x", .str "y"]), constF (.tup [.str "fill", .str "less", .str "times", .str "put"]), F_is_worth]) N_is_step.length b_is_step
/-! check_held -/
def N_check_held : List Str := ["held", "mark"]
def i_check_held : List FI := [.hk (hkG "MARKS"), .exc "BadHeld" 2 0]
def b_check_held : List MP.St := [.ite (.or (.not (.isi [.str] (.var 0))) (.or (.not (.chain .le .le (.lit (.int 1)) (.blt .len [.var 0]) (.lit (.int 2)))) (.not (.blt .all [.comp [1] (.one 1) (.val (.var 0)) none (.cmp .in_ (.var 1) (.call 0 []))])))) [.rais 1 2 []] [],
  .ite (.and (.cmp .eq (.blt .len [.var 0]) (.lit (.int 2))) (.cmp .ge (.idx (.var 0) (.lit (.int 0))) (.idx (.var 0) (.lit (.int 1))))) [.rais 1 2 []] []]
def F_check_held : FS := evDef (fnL [constF (.str "abc"), (fun _ _ => .stuck)]) N_check_held.length b_check_held
/-! check_steps -/
def N_check_steps : List Str := ["steps", "times", "index", "step"]
def i_check_steps : List FI := [.exc "BadStep" 3 1, .hk (hkG "MOST_STEPS"), .fn "is_step" 1 true, .hk (hkG "MOST_TIMES")]
def b_check_steps : List MP.St := [.ite (.not (.isi [.lst, .tup] (.var 0))) [.rais 0 3 [.lit (.int 0)]] [],
  .asg 1 (.lit (.int 0)),
  .for_ (.tup [2, 3]) (.enum (.var 0)) [.ite (.or (.cmp .eq (.var 2) (.call 1 [])) (.not (.call 2 [.var 3]))) [.rais 0 3 [.var 2]] [],
  .aug 1 .add (.blt .int [.cmp .eq (.idx (.var 3) (.lit (.int 0))) (.lit (.str "times"))]),
  .ite (.cmp .gt (.var 1) (.call 3 [])) [.rais 0 3 [.var 2]] []]]
def F_check_steps : FS := evDef (fnL [(fun _ _ => .stuck), constF (.int 5), F_is_step, constF (.int 1)]) N_check_steps.length b_check_steps
/-! Program_held -/
def N_Program_held : List Str := ["self"]
def i_Program_held : List FI := []
def b_Program_held : List MP.St := [.ret (.fld .marks (.var 0))]
def F_Program_held : FS := evDef (fnL []) N_Program_held.length b_Program_held
/-! Program_kept -/
def N_Program_kept : List Str := ["self", "mark"]
def i_Program_kept : List FI := [.hk (hkG "MARKS")]
def b_Program_kept : List MP.St := [.ret (.join (.lit (.str "")) (.comp [1] (.one 1) (.val (.call 0 [])) (some (.cmp .nin (.var 1) (.fld .marks (.var 0)))) (.var 1)))]
def F_Program_kept : FS := evDef (fnL [constF (.str "abc")]) N_Program_kept.length b_Program_kept
/-! Program_steps -/
def N_Program_steps : List Str := ["self"]
def i_Program_steps : List FI := []
def b_Program_steps : List MP.St := [.ret (.fld .rows (.var 0))]
def F_Program_steps : FS := evDef (fnL []) N_Program_steps.length b_Program_steps
/-! Program_columns -/
def N_Program_columns : List Str := ["self"]
def i_Program_columns : List FI := []
def b_Program_columns : List MP.St := [.ret (.fld .shown (.var 0))]
def F_Program_columns : FS := evDef (fnL []) N_Program_columns.length b_Program_columns
/-! Program_len -/
def N_Program_len : List Str := ["self"]
def i_Program_len : List FI := []
def b_Program_len : List MP.St := [.ret (.blt .len [.fld .rows (.var 0)])]
def F_Program_len : FS := evDef (fnL []) N_Program_len.length b_Program_len
/-! Program_all_parts -/
def N_Program_all_parts : List Str := ["self"]
def i_Program_all_parts : List FI := []
def b_Program_all_parts : List MP.St := [.ret (.tup [.fld .marks (.var 0), .fld .rows (.var 0), .fld .shown (.var 0)])]
def F_Program_all_parts : FS := evDef (fnL []) N_Program_all_parts.length b_Program_all_parts
/-! Program_eq -/
def N_Program_eq : List Str := ["self", "other"]
def i_Program_eq : List FI := [.hk (hkIsP "Program"), .hs (hkMt "all_parts" 0 true)]
def b_Program_eq : List MP.St := [.ret (.and (.call 0 [.var 1]) (.cmp .eq (.call 1 [.var 0]) (.call 1 [.var 1])))]
def F_Program_eq : FS := evDef (fnL [ispF, (mtF "all_parts" F_Program_all_parts)]) N_Program_eq.length b_Program_eq
/-! Program -/
def N_new_Program : List Str := ["self", "held", "steps", "columns"]
def i_new_Program : List FI := [.fn "check_held" 1 true, .fn "check_steps" 1 true, .fn "is_word" 2 true, .hk (hkG "TOLD"), .exc "BadTold" 4 0]
def b_new_Program : IniE := ⟨.call 0 [.var 1], .call 1 [.var 2], .not (.call 2 [.var 3, .call 3 []]), .var 1, .blt .tuple [.var 2], .var 3, 4, 4⟩
def F_new_Program : FS := iniF (fnL [F_check_held, F_check_steps, F_is_word, constF (.tup [.str "x", .str "y", .str "xy"]), (fun _ _ => .stuck)]) b_new_Program
/-! Program_with_steps -/
def N_Program_with_steps : List Str := ["self", "steps"]
def i_Program_with_steps : List FI := [.hk (hkNew "Program" 3)]
def b_Program_with_steps : List MP.St := [.ret (.call 0 [.fld .marks (.var 0), .var 1, .fld .shown (.var 0)])]
def F_Program_with_steps : FS := evDef (fnL [F_new_Program]) N_Program_with_steps.length b_Program_with_steps
/-! _law_mix -/
def N_law_mix : List Str := ["_law_script", "_law_seed", "_law_state", "_law_cell"]
def i_law_mix : List FI := []
def b_law_mix : List MP.St := [.asg 2 (.var 1),
  .for_ (.one 3) (.val (.var 0)) [.asg 2 (.bin .mod (.blt .int [.bin .add (.bin .add (.bin .mul (.var 2) (.lit (.int 48271))) (.bin .mod (.blt .int [.var 3]) (.lit (.int 2147483629)))) (.lit (.int 1))]) (.lit (.int 2147483647)))],
  .ret (.cell (.lst [.var 2, .cell (.blt .list [.var 0]), .lit (.int 0)]))]
def F_law_mix : FS := evDef (fnL []) N_law_mix.length b_law_mix
/-! _law_next -/
def N_law_next : List Str := ["_law_h", "_law_cap", "_law_cell"]
def i_law_next : List FI := []
def b_law_next : List MP.St := [.asg 2 (.idx (.ccat (.cget (.var 0) (.lit (.int 1))) (.lst [.lit (.int 0)])) (.bin .mod (.blt .int [.cget (.var 0) (.lit (.int 2))]) (.blt .max2 [.lit (.int 1), .clen (.cget (.var 0) (.lit (.int 1)))]))),
  .ite (.cmp .ge (.var 2) (.bin .pow (.lit (.int 10)) (.lit (.int 18)))) [.cset (.cget (.var 0) (.lit (.int 1))) (.bin .mod (.blt .int [.cget (.var 0) (.lit (.int 2))]) (.clen (.cget (.var 0) (.lit (.int 1))))) (.bin .fdiv (.var 2) (.var 1)),
  .ret (.bin .mod (.blt .int [.var 2]) (.var 1))] [],
  .cset (.var 0) (.lit (.int 0)) (.bin .mod (.blt .int [.bin .add (.bin .add (.bin .mul (.cget (.var 0) (.lit (.int 0))) (.lit (.int 48271))) (.bin .mul (.var 2) (.lit (.int 69621)))) (.lit (.int 11))]) (.lit (.int 2147483647))),
  .cset (.var 0) (.lit (.int 2)) (.bin .add (.cget (.var 0) (.lit (.int 2))) (.lit (.int 1))),
  .ret (.bin .mod (.blt .int [.bin .fdiv (.cget (.var 0) (.lit (.int 0))) (.lit (.int 7))]) (.var 1))]
def F_law_next : FS := evDef (fnL []) N_law_next.length b_law_next
/-! _law_alike -/
def N_law_alike : List Str := ["_law_found", "_law_due", "_law_k"]
def i_law_alike : List FI := [.fn "_law_alike" 2 false]
def b_law_alike : List MP.St := [.ite (.isi [.dic] (.var 1)) [.ret (.and (.isi [.dic] (.var 0)) (.and (.call 0 [.blt .list [.var 0], .blt .list [.var 1]]) (.cmp .eq (.var 0) (.var 1))))] [],
  .ite (.isi [.tup, .lst] (.var 1)) [.ite (.or (.not (.isi [.tup, .lst] (.var 0))) (.cmp .ne (.isi [.lst] (.var 0)) (.isi [.lst] (.var 1)))) [.ret (.lit (.bl false))] [],
  .ite (.cmp .ne (.blt .len [.var 0]) (.blt .len [.var 1])) [.ret (.lit (.bl false))] [],
  .ret (.cmp .eq (.comp [2] (.one 2) (.rng [.blt .len [.var 1]]) (some (.not (.call 0 [.idx (.var 0) (.var 2), .idx (.var 1) (.var 2)]))) (.var 2)) (.lst []))] [],
  .ite (.or (.isN false (.var 1)) (.isi [.str] (.var 1))) [.ret (.and (.cmp .eq (.var 0) (.var 1)) (.cmp .eq (.isi [.str] (.var 0)) (.isi [.str] (.var 1))))] [],
  .ret (.and (.isi [.int] (.var 0)) (.and (.cmp .eq (.isi [.bool] (.var 0)) (.isi [.bool] (.var 1))) (.cmp .eq (.var 0) (.var 1))))]
def F_law_alike : Nat → FS
  | 0 => fun _ _ => .stuck
  | n + 1 => evDef (fnL [F_law_alike n]) N_law_alike.length b_law_alike
/-! _law_pick -/
def N_law_pick : List Str := ["_law_h", "_law_things"]
def i_law_pick : List FI := [.fn "_law_next" 2 true]
def b_law_pick : List MP.St := [.ret (.idx (.var 1) (.call 0 [.var 0, .blt .len [.var 1]]))]
def F_law_pick : FS := evDef (fnL [F_law_next]) N_law_pick.length b_law_pick
/-! _law_worth -/
def N_law_worth : List Str := ["_law_h", "_law_word", "_law_scope"]
def i_law_worth : List FI := [.fn "_law_next" 2 true, .fn "_law_pick" 2 false]
def b_law_worth : List MP.St := [.ite (.cmp .eq (.call 0 [.var 0, .lit (.int 4)]) (.lit (.int 0))) [.ret (.idx (.lst [.lit (.int 0), .lit (.int 1), .neg (.lit (.int 1)), .lit (.int 2), .lit (.int 5), .neg (.lit (.int 9)), .lit (.int 0)]) (.call 0 [.var 0, .lit (.int 7)]))] [],
  .par [(false, 1), (false, 2)] [.idx (.lst [.lit (.str "sum"), .lit (.str "sum"), .lit (.str "count")]) (.call 0 [.var 0, .lit (.int 3)]), .idx (.lst [.lit (.str "all"), .lit (.str "same"), .lit (.str "ahead")]) (.call 0 [.var 0, .lit (.int 3)])],
  .ret (.tup [.var 1, .call 1 [.var 0, .lst [.lit (.str "x"), .lit (.str "y")]], .var 2, .cmp .eq (.call 0 [.var 0, .lit (.int 3)]) (.lit (.int 0))])]
def F_law_worth : FS := evDef (fnL [F_law_next, F_law_pick]) N_law_worth.length b_law_worth
/-! _law_steps -/
def N_law_steps : List Str := ["_law_h", "_law_most", "_law_found", "_law_k", "_law_words", "_law_word", "_law_step"]
def i_law_steps : List FI := [.fn "_law_next" 2 true, .fn "_law_pick" 2 false, .fn "_law_worth" 1 false]
def b_law_steps : List MP.St := [.asgO 2 (.lst []),
  .for_ (.one 3) (.rng [.call 0 [.var 0, .bin .add (.var 1) (.lit (.int 1))]]) [.asg 4 (.lst [.lit (.str "fill"), .lit (.str "less"), .lit (.str "put"), .lit (.str "add"), .lit (.str "fill"), .lit (.str "times")]),
  .asg 5 (.call 1 [.var 0, .var 4]),
  .ite (.and (.cmp .eq (.var 5) (.lit (.str "times"))) (.cmp .ne (.comp [6] (.one 6) (.val (.pk 2)) (some (.cmp .eq (.idx (.var 6) (.lit (.int 0))) (.lit (.str "times")))) (.var 6)) (.lst []))) [.asg 5 (.lit (.str "less"))] [],
  .ite (.cmp .eq (.var 5) (.lit (.str "add"))) [.app 2 (.tup [.var 5, .call 1 [.var 0, .lst [.lit (.str "x"), .lit (.str "y")]], .call 1 [.var 0, .lst [.lit (.str "x"), .lit (.str "y")]]])] [.app 2 (.tup [.var 5, .call 1 [.var 0, .lst [.lit (.str "x"), .lit (.str "y")]], .call 2 [.var 0]])]],
  .retO 2]
def F_law_steps : FS := evDef (fnL [F_law_next, F_law_pick, F_law_worth]) N_law_steps.length b_law_steps
/-! _law_parts -/
def N_law_parts : List Str := ["_law_h", "_law_most"]
def i_law_parts : List FI := [.fn "_law_pick" 2 false, .fn "_law_steps" 2 true]
def b_law_parts : List MP.St := [.ret (.tup [.call 0 [.var 0, .lst [.lit (.str "a"), .lit (.str "b"), .lit (.str "c"), .lit (.str "ab"), .lit (.str "ac"), .lit (.str "bc")]], .call 1 [.var 0, .var 1], .call 0 [.var 0, .lst [.lit (.str "x"), .lit (.str "y"), .lit (.str "xy")]]])]
def F_law_parts : FS := evDef (fnL [F_law_pick, F_law_steps]) N_law_parts.length b_law_parts
/-! _law_built -/
def N_law_built : List Str := ["_law_parts_here"]
def i_law_built : List FI := [.hk (hkNew "Program" 3)]
def b_law_built : List MP.St := [.ret (.call 0 [.idx (.var 0) (.lit (.int 0)), .idx (.var 0) (.lit (.int 1)), .idx (.var 0) (.lit (.int 2))])]
def F_law_built : FS := evDef (fnL [F_new_Program]) N_law_built.length b_law_built
/-! _law_is_worth -/
def N_law_is_worth : List Str := ["_law_thing"]
def i_law_is_worth : List FI := []
def b_law_is_worth : List MP.St := [.ite (.isi [.int] (.var 0)) [.ret (.and (.not (.isi [.bool] (.var 0))) (.chain .le .le (.neg (.lit (.int 9))) (.var 0) (.lit (.int 9))))] [],
  .ite (.or (.not (.isi [.tup] (.var 0))) (.or (.cmp .ne (.blt .len [.var 0]) (.lit (.int 4))) (.not (.isi [.bool] (.idx (.var 0) (.lit (.int 3))))))) [.ret (.lit (.bl false))] [],
  .ret (.and (.cmp .in_ (.idx (.var 0) (.lit (.int 0))) (.lst [.lit (.str "sum"), .lit (.str "count")])) (.and (.cmp .in_ (.idx (.var 0) (.lit (.int 1))) (.lst [.lit (.str "x"), .lit (.str "y")])) (.cmp .in_ (.idx (.var 0) (.lit (.int 2))) (.lst [.lit (.str "all"), .lit (.str "same"), .lit (.str "ahead")]))))]
def F_law_is_worth : FS := evDef (fnL []) N_law_is_worth.length b_law_is_worth
/-! _law_is_step -/
def N_law_is_step : List Str := ["_law_thing"]
def i_law_is_step : List FI := [.fn "_law_is_worth" 1 true]
def b_law_is_step : List MP.St := [.ite (.or (.not (.isi [.tup] (.var 0))) (.or (.cmp .ne (.blt .len [.var 0]) (.lit (.int 3))) (.cmp .nin (.idx (.var 0) (.lit (.int 1))) (.lst [.lit (.str "x"), .lit (.str "y")])))) [.ret (.lit (.bl false))] [],
  .ite (.cmp .eq (.idx (.var 0) (.lit (.int 0))) (.lit (.str "add"))) [.ret (.cmp .in_ (.idx (.var 0) (.lit (.int 2))) (.lst [.lit (.str "x"), .lit (.str "y")]))] [],
  .ret (.and (.cmp .in_ (.idx (.var 0) (.lit (.int 0))) (.lst [.lit (.str "fill"), .lit (.str "less"), .lit (.str "times"), .lit (.str "put")])) (.call 0 [.idx (.var 0) (.lit (.int 2))]))]
def F_law_is_step : FS := evDef (fnL [F_law_is_worth]) N_law_is_step.length b_law_is_step
/-! _law_wrong_step -/
def N_law_wrong_step : List Str := ["_law_steps_here", "_law_many_times", "_law_index"]
def i_law_wrong_step : List FI := [.fn "_law_is_step" 1 true]
def b_law_wrong_step : List MP.St := [.ite (.not (.isi [.lst, .tup] (.var 0))) [.ret (.lit (.int 0))] [],
  .asg 1 (.lit (.int 0)),
  .for_ (.one 2) (.rng [.blt .len [.var 0]]) [.ite (.or (.cmp .eq (.var 2) (.lit (.int 5))) (.not (.call 0 [.idx (.var 0) (.var 2)]))) [.ret (.var 2)] [],
  .asg 1 (.bin .add (.var 1) (.blt .int [.cmp .eq (.idx (.idx (.var 0) (.var 2)) (.lit (.int 0))) (.lit (.str "times"))])),
  .ite (.cmp .gt (.var 1) (.lit (.int 1))) [.ret (.var 2)] []],
  .ret (.lit (.non))]
def F_law_wrong_step : FS := evDef (fnL [F_law_is_step]) N_law_wrong_step.length b_law_wrong_step
/-! _law_fault -/
def N_law_fault : List Str := ["_law_held", "_law_steps_here", "_law_columns"]
def i_law_fault : List FI := [.fn "_law_wrong_step" 1 false]
def b_law_fault : List MP.St := [.ite (.cmp .nin (.var 0) (.lst [.lit (.str "a"), .lit (.str "b"), .lit (.str "c"), .lit (.str "ab"), .lit (.str "ac"), .lit (.str "bc")])) [.ret (.tup [.lit (.str "held")])] [],
  .ite (.isN true (.call 0 [.var 1])) [.ret (.tup [.lit (.str "step"), .call 0 [.var 1]])] [],
  .ret (.ite (.cmp .nin (.var 2) (.lst [.lit (.str "x"), .lit (.str "y"), .lit (.str "xy")])) (.tup [.lit (.str "told")]) (.lit (.non)))]
def F_law_fault : FS := evDef (fnL [F_law_wrong_step]) N_law_fault.length b_law_fault
/-! _law_tried -/
def N_law_tried : List Str := ["_law_program", "_law_held", "_law_steps_here", "_law_columns", "_law_shown", "error"]
def i_law_tried : List FI := [.hk (hkNew "Program" 3), .hs (hkMt "with_steps" 1 false)]
def b_law_tried : List MP.St := [.asg 4 (.lit (.non)),
  .try_ [2, 3, 4] [.asg 4 (.ite (.isN false (.var 0)) (.call 0 [.var 1, .var 2, .var 3]) (.call 1 [.var 0, .var 2]))] [⟨2, (some 5), .asg 4 (.ifr (.tup [.lit (.str "held")]))⟩, ⟨3, (some 5), .asg 4 (.tup [.lit (.str "step"), .fld])⟩, ⟨4, none, .asg 4 (.tup [.lit (.str "told")])⟩] [],
  .ret (.var 4)]
def F_law_tried : FS := evDef (fnL [F_new_Program, (mtF "with_steps" F_Program_with_steps)]) N_law_tried.length b_law_tried
/-! _law_spoiled -/
def N_law_spoiled : List Str := ["_law_h", "_law_odd_here", "_law_change", "_law_held", "_law_steps_here", "_law_columns", "_law_kind", "_law_turned", "_law_at"]
def i_law_spoiled : List FI := [.fn "_law_parts" 2 true, .fn "_law_next" 2 true, .fn "_law_pick" 2 false]
def b_law_spoiled : List MP.St := [.unp [3, 4, 5] (.call 0 [.var 0, .lit (.int 5)]),
  .for_ (.one 2) (.rng [.call 1 [.var 0, .lit (.int 3)]]) [.asg 6 (.call 1 [.var 0, .lit (.int 5)]),
  .ite (.cmp .eq (.var 6) (.lit (.int 0))) [.asg 3 (.call 2 [.var 0, .lst [.lit (.str ""), .lit (.str "abc"), .lit (.str "ba"), .lit (.str "aa"), .lit (.str "d"), .lit (.non), .lit (.int 5), .lst [.lit (.str "a")], .lit (.str "a")]])] [.ite (.cmp .eq (.var 6) (.lit (.int 1))) [.asg 5 (.call 2 [.var 0, .lst [.lit (.str ""), .lit (.str "yx"), .lit (.str "xx"), .lit (.str "z"), .lit (.non), .lst [.lit (.str "x")], .lit (.str "xy")]])] [.ite (.cmp .eq (.var 6) (.lit (.int 2))) [.asg 7 (.ite (.isi [.lst] (.var 4)) (.blt .tuple [.var 4]) (.var 4)),
  .asg 4 (.call 2 [.var 0, .lst [.tup [], .lit (.non), .lit (.str "steps"), .lit (.int 5), .var 7, .dic0]])] [.ite (.isi [.lst] (.var 4)) [.asg 8 (.call 1 [.var 0, .bin .add (.blt .len [.var 4]) (.lit (.int 1))]),
  .asg 4 (.bin .add (.bin .add (.slice (.var 4) none (some (.var 8))) (.lst [.call 2 [.var 0, .var 1]])) (.slice (.var 4) (some (.var 8)) none))] []]]]],
  .ret (.tup [.var 3, .var 4, .var 5])]
def F_law_spoiled : FS := evDef (fnL [F_law_parts, F_law_next, F_law_pick]) N_law_spoiled.length b_law_spoiled
/-! _law_odd -/
def N_law_odd : List Str := ["_law_odd_here"]
def i_law_odd : List FI := []
def b_law_odd : List MP.St := [.asg 0 (.lst [.tup [.lit (.str "fill"), .lit (.str "x"), .lit (.int 10)], .tup [.lit (.str "fill"), .lit (.str "z"), .lit (.int 1)], .tup [.lit (.str "fill"), .lit (.str "x")], .lit (.non), .lit (.int 5), .tup [.lit (.str "add"), .lit (.str "x"), .lit (.int 3)]]),
  .asg 0 (.bin .add (.var 0) (.lst [.tup [.lit (.str "add"), .lit (.str "x"), .lit (.str "y"), .lit (.str "x")], .tup [.lit (.str "sum"), .lit (.str "x"), .lit (.int 1)]])),
  .asg 0 (.bin .add (.var 0) (.lst [.tup [.lit (.str "less"), .lit (.str "x"), .tup [.lit (.str "sum"), .lit (.str "x"), .lit (.str "all")]], .tup [.lit (.str "less"), .lit (.str "x"), .tup [.lit (.str "sum"), .lit (.str "x"), .lit (.str "none"), .lit (.bl true)]]])),
  .asg 0 (.bin .add (.var 0) (.lst [.tup [.lit (.str "put"), .lit (.str "y"), .lit (.bl true)], .lst [.lit (.str "put"), .lit (.str "y"), .lit (.int 1)]])),
  .asg 0 (.bin .add (.var 0) (.lst [.tup [.lit (.str "times"), .lit (.str "x"), .tup [.lit (.str "count"), .lit (.str "y"), .lit (.str "same"), .lit (.int 1)]], .tup [.lit (.str "times"), .lit (.str "x"), .lit (.int 2)], .tup [.lit (.str "put"), .lit (.non), .lit (.int 1)]])),
  .asg 0 (.bin .add (.var 0) (.lst [.tup [.lit (.str "put"), .lit (.str "x"), .tup [.lit (.str "all"), .lit (.str "x"), .lit (.str "sum"), .lit (.bl false)]], .tup [.lit (.non), .lit (.str "x"), .lit (.int 1)], .tup [.lit (.str "fill"), .lit (.str "x"), .lit (.non)]])),
  .asg 0 (.bin .add (.var 0) (.lst [.tup [.lit (.str "fill"), .lit (.str "x"), .lit (.str "x")]])),
  .ret (.bin .add (.var 0) (.lst [.tup [.lit (.str "less"), .lit (.str "xy"), .lit (.int 1)], .tup [.lit (.str "times"), .lit (.str "y"), .tup [.lit (.str "sum"), .lit (.str "y"), .lit (.str "all"), .lit (.bl false)]]]))]
def F_law_odd : FS := evDef (fnL []) N_law_odd.length b_law_odd
/-! law -/
def N_law_k01 : List Str := ["_law_script", "_law_h", "_law_odd_here", "_law_turn", "_law_parts_here", "_law_later", "_law_held", "_law_steps_here", "_law_columns", "_law_fault_here", "_law_shown", "_law_program", "_law_wrong", "_law_mark"]
def i_law_k01 : List FI := [.fn "_law_mix" 2 false, .fn "_law_odd" 0 true, .fn "_law_spoiled" 2 true, .fn "_law_fault" 3 true, .fn "_law_tried" 4 false, .fn "_law_alike" 2 false, .hk (hkPrp "held" false), .hk (hkPrp "columns" false), .hk (hkPrp "steps" false), .hk hkLenP, .hk (hkPrp "kept" false), .fn "_law_parts" 2 true, .fn "_law_built" 1 false, .fn "_law_wrong_step" 1 false, .ht hkEqP, .hk (hkNew "Program" 3)]
def b_law_k01 : List MP.St := [.asg 1 (.call 0 [.var 0, .lit (.int 1)]),
  .asg 2 (.call0 1),
  .for_ (.one 3) (.rng [.lit (.int 5)]) [.unp [6, 7, 8] (.call 2 [.var 1, .var 2]),
  .par [(false, 9), (false, 10)] [.call 3 [.var 6, .var 7, .var 8], .call 4 [.lit (.non), .var 6, .var 7, .var 8]],
  .ite (.isN true (.var 9)) [.ite (.not (.call 5 [.var 10, .var 9])) [.ret (.lit (.bl false))] []] [.ite (.or (.cmp .ne (.call 6 [.var 10]) (.var 6)) (.or (.cmp .ne (.call 7 [.var 10]) (.var 8)) (.or (.cmp .ne (.call 8 [.var 10]) (.blt .tuple [.var 7])) (.cmp .ne (.call 9 [.var 10]) (.blt .len [.var 7]))))) [.ret (.lit (.bl false))] [.ite (.cmp .ne (.call 10 [.var 10]) (.join (.lit (.str "")) (.comp [13] (.one 13) (.val (.lit (.str "abc"))) (some (.cmp .nin (.var 13) (.var 6))) (.var 13)))) [.ret (.lit (.bl false))] []]],
  .asg 4 (.call 11 [.var 1, .lit (.int 5)]),
  .par [(false, 11), (false, 12)] [.call 12 [.var 4], .call 13 [.var 7]],
  .asg 5 (.call 4 [.var 11, .lit (.non), .var 7, .lit (.non)]),
  .ite (.and (.isN true (.var 12)) (.cmp .ne (.var 5) (.tup [.lit (.str "step"), .var 12]))) [.ret (.lit (.bl false))] [],
  .ite (.and (.isN false (.var 12)) (.not (.call 14 [.var 5, .call 15 [.idx (.var 4) (.lit (.int 0)), .var 7, .idx (.var 4) (.lit (.int 2))]]))) [.ret (.lit (.bl false))] [],
  .ite (.and (.isN false (.var 12)) (.cmp .ne (.call 14 [.var 5, .var 11]) (.cmp .eq (.blt .list [.var 7]) (.idx (.var 4) (.lit (.int 1)))))) [.ret (.lit (.bl false))] []],
  .ret (.lit (.bl true))]
def F_law_k01 : FS := evDef (fnL [F_law_mix, F_law_odd, F_law_spoiled, F_law_fault, F_law_tried, (F_law_alike 6), (prpF F_Program_held), (prpF F_Program_columns), (prpF F_Program_steps), (lenpF F_Program_len), (prpF F_Program_kept), F_law_parts, F_law_built, F_law_wrong_step, (eqpF F_Program_eq), F_new_Program]) N_law_k01.length b_law_k01
/-! _wall -/
def N__wall : List Str := ["k"]
def i__wall : List FI := []
def b__wall : List MP.St := [.whl (.lit (.bl true)) [.pass]]
def F__wall : FS := evDef (fnL []) N__wall.length b__wall
/-! is_mark -/
def N_is_mark : List Str := ["thing"]
def i_is_mark : List FI := [.hk (hkG "MARKS")]
def b_is_mark : List MP.St := [.ret (.and (.isi [.str] (.var 0)) (.and (.cmp .eq (.blt .len [.var 0]) (.lit (.int 1))) (.cmp .in_ (.var 0) (.call 0 []))))]
def F_is_mark : FS := evDef (fnL [constF (.str "abc")]) N_is_mark.length b_is_mark
/-! is_row -/
def N_is_row : List Str := ["thing", "entry"]
def i_is_row : List FI := [.fn "is_mark" 1 true, .fn "is_integer" 3 true]
def b_is_row : List MP.St := [.ite (.or (.not (.isi [.tup] (.var 0))) (.or (.cmp .ne (.blt .len [.var 0]) (.lit (.int 3))) (.not (.call 0 [.idx (.var 0) (.lit (.int 0))])))) [.ret (.lit (.bl false))] [],
  .ret (.blt .all [.comp [1] (.one 1) (.val (.slice (.var 0) (some (.lit (.int 1))) none)) none (.or (.isN false (.var 1)) (.call 1 [.var 1, .lit (.non), .lit (.non)]))])]
def F_is_row : FS := evDef (fnL [F_is_mark, F_is_integer]) N_is_row.length b_is_row
/-! check_table -/
def N_check_table : List Str := ["table", "index", "row"]
def i_check_table : List FI := [.exc "BadRow" 1 1, .fn "is_row" 1 true]
def b_check_table : List MP.St := [.ite (.not (.isi [.lst] (.var 0))) [.rais 0 1 [.neg (.lit (.int 1))]] [],
  .for_ (.tup [1, 2]) (.enum (.var 0)) [.ite (.not (.call 1 [.var 2])) [.rais 0 1 [.var 1]] []]]
def F_check_table : FS := evDef (fnL [(fun _ _ => .stuck), F_is_row]) N_check_table.length b_check_table
/-! entry_of -/
def N_entry_of : List Str := ["row", "column"]
def i_entry_of : List FI := []
def b_entry_of : List MP.St := [.ret (.idx (.var 0) (.bin .add (.lit (.int 1)) (.cidx "COLUMNS" ["x", "y"] (.var 1))))]
def F_entry_of : FS := evDef (fnL []) N_entry_of.length b_entry_of
/-! with_entry -/
def N_with_entry : List Str := ["row", "column", "entry", "at"]
def i_with_entry : List FI := []
def b_with_entry : List MP.St := [.asg 3 (.bin .add (.lit (.int 1)) (.cidx "COLUMNS" ["x", "y"] (.var 1))),
  .ret (.tup [.star (.slice (.var 0) none (some (.var 3))), .var 2, .star (.slice (.var 0) (some (.bin .add (.var 3) (.lit (.int 1)))) none)])]
def F_with_entry : FS := evDef (fnL []) N_with_entry.length b_with_entry
/-! Program_with_steps -/
def N_Program_with_steps_2 : List Str := ["self", "steps"]
def i_Program_with_steps_2 : List FI := [.fn "_wall" 1 true]
def b_Program_with_steps_2 : List MP.St := [.exp (.call 0 [.lit (.int 0)])]
def F_Program_with_steps_2 : FS := evDef (fnL [F__wall]) N_Program_with_steps_2.length b_Program_with_steps_2
/-! marks_in -/
def N_marks_in : List Str := ["program", "mark", "scope", "behind", "found", "other"]
def i_marks_in : List FI := [.hk (hkG "MARKS")]
def b_marks_in : List MP.St := [.asgO 4 (.lst []),
  .for_ (.one 5) (.val (.call 0 [])) [.ite (.or (.cmp .eq (.var 2) (.lit (.str "all"))) (.or (.and (.cmp .eq (.var 2) (.lit (.str "same"))) (.cmp .eq (.var 5) (.var 1))) (.and (.cmp .eq (.var 2) (.lit (.str "ahead"))) (.cmp .lt (.var 5) (.var 1))))) [.ite (.or (.not (.var 3)) (.cmp .nin (.var 5) (.fld .marks (.var 0)))) [.app 4 (.var 5)] []] []],
  .retO 4]
def F_marks_in : FS := evDef (fnL [constF (.str "abc")]) N_marks_in.length b_marks_in
/-! worth_for -/
def N_worth_for : List Str := ["program", "worth", "mark", "table", "marks", "entries", "word", "column", "scope", "behind", "row", "entry"]
def i_worth_for : List FI := [.fn "marks_in" 4 true, .fn "entry_of" 2 false]
def b_worth_for : List MP.St := [.ite (.not (.isi [.tup] (.var 1))) [.ret (.var 1)] [],
  .unp [6, 7, 8, 9] (.var 1),
  .asg 4 (.call 0 [.var 0, .var 2, .var 8, .var 9]),
  .asg 5 (.comp [10] (.one 10) (.val (.var 3)) (some (.cmp .in_ (.idx (.var 10) (.lit (.int 0))) (.var 4))) (.call 1 [.var 10, .var 7])),
  .asg 5 (.comp [11] (.one 11) (.val (.var 5)) (some (.isN true (.var 11))) (.var 11)),
  .ret (.ite (.cmp .eq (.var 6) (.lit (.str "sum"))) (.blt .sum [.var 5]) (.blt .len [.var 5]))]
def F_worth_for : FS := evDef (fnL [F_marks_in, F_entry_of]) N_worth_for.length b_worth_for
/-! changed_entry -/
def N_changed_entry : List Str := ["step", "row", "worths", "entry", "worth", "word", "column", "what", "other"]
def i_changed_entry : List FI := [.fn "entry_of" 2 false]
def b_changed_entry : List MP.St := [.unp [5, 6, 7] (.var 0),
  .asg 3 (.call 0 [.var 1, .var 6]),
  .ite (.cmp .eq (.var 5) (.lit (.str "add"))) [.asg 8 (.call 0 [.var 1, .var 7]),
  .ret (.ite (.or (.isN false (.var 3)) (.isN false (.var 8))) (.lit (.non)) (.bin .add (.var 3) (.var 8)))] [],
  .asg 4 (.idx (.var 2) (.idx (.var 1) (.lit (.int 0)))),
  .ite (.or (.cmp .eq (.var 5) (.lit (.str "put"))) (.and (.cmp .eq (.var 5) (.lit (.str "fill"))) (.isN false (.var 3)))) [.ret (.var 4)] [],
  .ite (.or (.isN false (.var 3)) (.cmp .eq (.var 5) (.lit (.str "fill")))) [.ret (.var 3)] [],
  .ret (.ite (.cmp .eq (.var 5) (.lit (.str "less"))) (.bin .sub (.var 3) (.var 4)) (.bin .mul (.var 3) (.var 4)))]
def F_changed_entry : FS := evDef (fnL [F_entry_of]) N_changed_entry.length b_changed_entry
/-! stepped -/
def N_stepped : List Str := ["program", "table", "many", "step", "worths", "row", "mark"]
def i_stepped : List FI := [.hk (hkG "MARKS"), .fn "worth_for" 4 false, .fn "with_entry" 3 true, .fn "changed_entry" 3 false]
def b_stepped : List MP.St := [.for_ (.one 3) (.val (.slice (.fld .rows (.var 0)) none (some (.var 2)))) [.asg 4 (.dic0),
  .ite (.cmp .ne (.idx (.var 3) (.lit (.int 0))) (.lit (.str "add"))) [.asg 4 (.dcomp [6] (.one 6) (.val (.call 0 [])) (.var 6) (.call 1 [.var 0, .idx (.var 3) (.lit (.int 2)), .var 6, .var 1]))] [],
  .asg 1 (.comp [5] (.one 5) (.val (.var 1)) none (.call 2 [.var 5, .idx (.var 3) (.lit (.int 1)), .call 3 [.var 3, .var 5, .var 4]]))],
  .ret (.blt .list [.var 1])]
def F_stepped : FS := evDef (fnL [constF (.str "abc"), F_worth_for, F_with_entry, F_changed_entry]) N_stepped.length b_stepped
/-! done -/
def N_done : List Str := ["program", "table"]
def i_done : List FI := [.fn "check_table" 1 true, .fn "stepped" 3 true]
def b_done : List MP.St := [.exp (.call 0 [.var 1]),
  .ret (.call 1 [.var 0, .var 1, .blt .len [.fld .rows (.var 0)]])]
def F_done : FS := evDef (fnL [F_check_table, F_stepped]) N_done.length b_done
/-! done_by -/
def N_done_by : List Str := ["program", "table", "many"]
def i_done_by : List FI := [.fn "check_table" 1 true, .fn "is_integer" 3 true, .exc "BadIndex" 5 1, .fn "stepped" 3 true]
def b_done_by : List MP.St := [.exp (.call 0 [.var 1]),
  .ite (.not (.call 1 [.var 2, .lit (.int 0), .blt .len [.fld .rows (.var 0)]])) [.rais 2 5 [.var 2]] [],
  .ret (.call 3 [.var 0, .var 1, .var 2])]
def F_done_by : FS := evDef (fnL [F_check_table, F_is_integer, (fun _ _ => .stuck), F_stepped]) N_done_by.length b_done_by
/-! told_of -/
def N_told_of : List Str := ["program", "table", "rows", "row", "column"]
def i_told_of : List FI := [.fn "stepped" 3 true, .hk (hkPrp "columns" false), .fn "entry_of" 2 false]
def b_told_of : List MP.St := [.asg 2 (.comp [3] (.one 3) (.val (.call 0 [.var 0, .var 1, .blt .len [.fld .rows (.var 0)]])) (some (.cmp .nin (.idx (.var 3) (.lit (.int 0))) (.fld .marks (.var 0)))) (.var 3)),
  .ret (.comp [3] (.one 3) (.val (.var 2)) none (.blt .tuple [.comp [4] (.one 4) (.val (.call 1 [.var 0])) none (.call 2 [.var 3, .var 4])]))]
def F_told_of : FS := evDef (fnL [F_stepped, (prpF F_Program_columns), F_entry_of]) N_told_of.length b_told_of
/-! told -/
def N_told : List Str := ["program", "table"]
def i_told : List FI := [.fn "check_table" 1 true, .fn "told_of" 2 true]
def b_told : List MP.St := [.exp (.call 0 [.var 1]),
  .ret (.call 1 [.var 0, .var 1])]
def F_told : FS := evDef (fnL [F_check_table, F_told_of]) N_told.length b_told
/-! _law_entry -/
def N_law_entry : List Str := ["_law_h"]
def i_law_entry : List FI := [.fn "_law_next" 2 true]
def b_law_entry : List MP.St := [.ret (.idx (.lst [.lit (.non), .lit (.int 0), .lit (.int 1), .neg (.lit (.int 2)), .lit (.int 3), .lit (.int 7), .lit (.non), .lit (.int 20), .neg (.lit (.int 5))]) (.call 0 [.var 0, .lit (.int 9)]))]
def F_law_entry : FS := evDef (fnL [F_law_next]) N_law_entry.length b_law_entry
/-! _law_table -/
def N_law_table : List Str := ["_law_h", "_law_most", "_law_k"]
def i_law_table : List FI := [.fn "_law_next" 2 true, .fn "_law_pick" 2 false, .fn "_law_entry" 1 false]
def b_law_table : List MP.St := [.ret (.comp [2] (.one 2) (.rng [.call 0 [.var 0, .bin .add (.var 1) (.lit (.int 1))]]) none (.tup [.call 1 [.var 0, .lst [.lit (.str "a"), .lit (.str "b"), .lit (.str "c")]], .call 2 [.var 0], .call 2 [.var 0]]))]
def F_law_table : FS := evDef (fnL [F_law_next, F_law_pick, F_law_entry]) N_law_table.length b_law_table
/-! _law_at -/
def N_law_at : List Str := ["_law_row", "_law_column"]
def i_law_at : List FI := []
def b_law_at : List MP.St := [.ret (.ite (.cmp .eq (.var 1) (.lit (.str "x"))) (.idx (.var 0) (.lit (.int 1))) (.idx (.var 0) (.lit (.int 2))))]
def F_law_at : FS := evDef (fnL []) N_law_at.length b_law_at
/-! _law_worked -/
def N_law_worked : List Str := ["_law_parts_here", "_law_worth_here", "_law_mark", "_law_table_here", "_law_found", "_law_row", "_law_word", "_law_column", "_law_scope", "_law_behind", "_law_is_in"]
def i_law_worked : List FI := [.fn "_law_at" 2 false]
def b_law_worked : List MP.St := [.ite (.isi [.int] (.var 1)) [.ret (.var 1)] [],
  .unp [6, 7, 8, 9] (.var 1),
  .asgO 4 (.lst []),
  .for_ (.one 5) (.val (.var 3)) [.asg 10 (.or (.cmp .eq (.var 8) (.lit (.str "all"))) (.or (.and (.cmp .eq (.var 8) (.lit (.str "same"))) (.cmp .eq (.idx (.var 5) (.lit (.int 0))) (.var 2))) (.and (.cmp .eq (.var 8) (.lit (.str "ahead"))) (.cmp .lt (.idx (.var 5) (.lit (.int 0))) (.var 2))))),
  .ite (.and (.var 10) (.and (.not (.and (.var 9) (.cmp .in_ (.idx (.var 5) (.lit (.int 0))) (.idx (.var 0) (.lit (.int 0)))))) (.isN true (.call 0 [.var 5, .var 7])))) [.app 4 (.call 0 [.var 5, .var 7])] []],
  .ret (.ite (.cmp .eq (.var 6) (.lit (.str "sum"))) (.blt .sum [.pk 4]) (.blt .len [.pk 4]))]
def F_law_worked : FS := evDef (fnL [F_law_at]) N_law_worked.length b_law_worked
/-! _law_after -/
def N_law_after : List Str := ["_law_parts_here", "_law_step", "_law_table_here", "_law_found", "_law_row", "_law_entry_here", "_law_other", "_law_later", "_law_worth_here"]
def i_law_after : List FI := [.fn "_law_at" 2 false, .fn "_law_worked" 4 false]
def b_law_after : List MP.St := [.asgO 3 (.lst []),
  .for_ (.one 4) (.val (.var 2)) [.asg 5 (.call 0 [.var 4, .idx (.var 1) (.lit (.int 1))]),
  .ite (.cmp .eq (.idx (.var 1) (.lit (.int 0))) (.lit (.str "add"))) [.asg 6 (.call 0 [.var 4, .idx (.var 1) (.lit (.int 2))]),
  .asg 7 (.ite (.or (.isN false (.var 5)) (.isN false (.var 6))) (.lit (.non)) (.bin .add (.var 5) (.var 6)))] [.asg 8 (.call 1 [.var 0, .idx (.var 1) (.lit (.int 2)), .idx (.var 4) (.lit (.int 0)), .var 2]),
  .asg 7 (.var 5),
  .ite (.or (.cmp .eq (.idx (.var 1) (.lit (.int 0))) (.lit (.str "put"))) (.and (.cmp .eq (.idx (.var 1) (.lit (.int 0))) (.lit (.str "fill"))) (.isN false (.var 5)))) [.asg 7 (.var 8)] [.ite (.and (.cmp .eq (.idx (.var 1) (.lit (.int 0))) (.lit (.str "less"))) (.isN true (.var 5))) [.asg 7 (.bin .sub (.var 5) (.var 8))] [.ite (.and (.cmp .eq (.idx (.var 1) (.lit (.int 0))) (.lit (.str "times"))) (.isN true (.var 5))) [.asg 7 (.bin .mul (.var 5) (.var 8))] []]]],
  .app 3 (.ite (.cmp .eq (.idx (.var 1) (.lit (.int 1))) (.lit (.str "x"))) (.tup [.idx (.var 4) (.lit (.int 0)), .var 7, .idx (.var 4) (.lit (.int 2))]) (.tup [.idx (.var 4) (.lit (.int 0)), .idx (.var 4) (.lit (.int 1)), .var 7]))],
  .retO 3]
def F_law_after : FS := evDef (fnL [F_law_at, F_law_worked]) N_law_after.length b_law_after
/-! _law_done -/
def N_law_done : List Str := ["_law_parts_here", "_law_table_here", "_law_step"]
def i_law_done : List FI := [.fn "_law_after" 3 true]
def b_law_done : List MP.St := [.for_ (.one 2) (.val (.idx (.var 0) (.lit (.int 1)))) [.asg 1 (.call 0 [.var 0, .var 2, .var 1])],
  .ret (.blt .list [.var 1])]
def F_law_done : FS := evDef (fnL [F_law_after]) N_law_done.length b_law_done
/-! _law_told -/
def N_law_told : List Str := ["_law_parts_here", "_law_table_here", "_law_rows", "_law_row", "_law_column"]
def i_law_told : List FI := [.fn "_law_done" 2 true, .fn "_law_at" 2 false]
def b_law_told : List MP.St := [.asg 2 (.comp [3] (.one 3) (.val (.call 0 [.var 0, .var 1])) (some (.cmp .nin (.idx (.var 3) (.lit (.int 0))) (.idx (.var 0) (.lit (.int 0))))) (.var 3)),
  .ret (.comp [3] (.one 3) (.val (.var 2)) none (.blt .tuple [.comp [4] (.one 4) (.val (.idx (.var 0) (.lit (.int 2)))) none (.call 1 [.var 3, .var 4])]))]
def F_law_told : FS := evDef (fnL [F_law_done, F_law_at]) N_law_told.length b_law_told
/-! _law_refused -/
def N_law_refused : List Str := ["_law_program", "_law_table_here", "_law_many", "_law_found", "error"]
def i_law_refused : List FI := [.fn "done_by" 3 true]
def b_law_refused : List MP.St := [.asg 3 (.lit (.non)),
  .try_ [5] [.exp (.call 0 [.var 0, .var 1, .var 2])] [⟨5, (some 4), .asg 3 (.lst [.fld])⟩] [],
  .ret (.var 3)]
def F_law_refused : FS := evDef (fnL [F_done_by]) N_law_refused.length b_law_refused
/-! law -/
def N_law_k03 : List Str := ["_law_script", "_law_h", "_law_turn", "_law_many", "_law_found", "_law_parts_here", "_law_table_here", "_law_program", "_law_given", "_law_here"]
def i_law_k03 : List FI := [.fn "_law_mix" 2 false, .fn "_law_parts" 2 true, .fn "_law_table" 2 true, .fn "_law_built" 1 false, .fn "_law_alike" 2 false, .fn "done_by" 3 true, .fn "_law_after" 3 true, .fn "done" 2 true, .fn "told" 2 true, .fn "_law_told" 2 true, .fn "_law_refused" 3 false]
def b_law_k03 : List MP.St := [.asg 1 (.call 0 [.var 0, .lit (.int 3)]),
  .for_ (.one 2) (.rng [.lit (.int 5)]) [.par [(false, 5), (false, 6)] [.call 1 [.var 1, .lit (.int 5)], .call 2 [.var 1, .lit (.int 9)]],
  .par [(false, 7), (false, 8), (false, 9)] [.call 3 [.var 5], .blt .list [.var 6], .blt .list [.var 6]],
  .for_ (.one 3) (.rng [.bin .add (.blt .len [.idx (.var 5) (.lit (.int 1))]) (.lit (.int 1))]) [.ite (.not (.call 4 [.call 5 [.var 7, .var 8, .var 3], .var 9])) [.ret (.lit (.bl false))] [],
  .ite (.cmp .lt (.var 3) (.blt .len [.idx (.var 5) (.lit (.int 1))])) [.asg 9 (.call 6 [.var 5, .idx (.idx (.var 5) (.lit (.int 1))) (.var 3), .var 9])] []],
  .asgO 4 (.call 7 [.var 7, .var 8]),
  .ite (.or (.not (.callT 4 4 [.var 4, .var 9])) (.cmp .ne (.var 8) (.var 6))) [.ret (.lit (.bl false))] [],
  .ite (.not (.call 4 [.call 8 [.var 7, .var 8], .call 9 [.var 5, .var 6]])) [.ret (.lit (.bl false))] [],
  .app 4 (.lit (.str "more")),
  .tapp (.call 8 [.var 7, .var 8]) (.lit (.str "more")),
  .ite (.or (.cmp .ne (.call 7 [.var 7, .var 8]) (.var 9)) (.cmp .ne (.call 5 [.var 7, .var 8, .lit (.int 0)]) (.var 6))) [.ret (.lit (.bl false))] [],
  .for_ (.one 3) (.val (.lst [.neg (.lit (.int 1)), .bin .add (.blt .len [.idx (.var 5) (.lit (.int 1))]) (.lit (.int 1)), .lit (.bl true), .lit (.non), .lit (.str "1")])) [.ite (.not (.call 4 [.call 10 [.var 7, .var 6, .var 3], .lst [.var 3]])) [.ret (.lit (.bl false))] []]],
  .ret (.lit (.bl true))]
def F_law_k03 : FS := evDef (fnL [F_law_mix, F_law_parts, F_law_table, F_law_built, (F_law_alike 6), F_done_by, F_law_after, F_done, F_told, F_law_told, F_law_refused]) N_law_k03.length b_law_k03
/-! kind_of -/
def N_kind_of : List Str := ["row", "column"]
def i_kind_of : List FI := [.fn "entry_of" 2 false, .hk (hkG "COLUMNS")]
def b_kind_of : List MP.St := [.ret (.tup [.idx (.var 0) (.lit (.int 0)), .join (.lit (.str "")) (.comp [1] (.one 1) (.val (.call 1 [])) (some (.isN true (.call 0 [.var 0, .var 1]))) (.var 1))])]
def F_kind_of : FS := evDef (fnL [F_entry_of, constF (.tup [.str "x", .str "y"])]) N_kind_of.length b_kind_of
/-! is_kind -/
def N_is_kind : List Str := ["thing"]
def i_is_kind : List FI := [.fn "is_mark" 1 true, .hk (hkG "HAVES")]
def b_is_kind : List MP.St := [.ite (.or (.not (.isi [.tup] (.var 0))) (.or (.cmp .ne (.blt .len [.var 0]) (.lit (.int 2))) (.not (.call 0 [.idx (.var 0) (.lit (.int 0))])))) [.ret (.lit (.bl false))] [],
  .ret (.and (.isi [.str] (.idx (.var 0) (.lit (.int 1)))) (.cmp .in_ (.idx (.var 0) (.lit (.int 1))) (.call 1 [])))]
def F_is_kind : FS := evDef (fnL [F_is_mark, constF (.tup [.str "", .str "x", .str "xy", .str "y"])]) N_is_kind.length b_is_kind
/-! Program_kept -/
def N_Program_kept_2 : List Str := ["self"]
def i_Program_kept_2 : List FI := [.fn "_wall" 1 true]
def b_Program_kept_2 : List MP.St := [.exp (.call 0 [.lit (.int 0)])]
def F_Program_kept_2 : FS := evDef (fnL [F__wall]) N_Program_kept_2.length b_Program_kept_2
/-! Program_with_steps -/
def N_Program_with_steps_3 : List Str := ["self", "steps"]
def i_Program_with_steps_3 : List FI := [.fn "_wall" 1 true]
def b_Program_with_steps_3 : List MP.St := [.exp (.call 0 [.lit (.int 1)])]
def F_Program_with_steps_3 : FS := evDef (fnL [F__wall]) N_Program_with_steps_3.length b_Program_with_steps_3
/-! variable_in -/
def N_variable_in : List Str := ["name", "table", "index", "rows", "entry", "row"]
def i_variable_in : List FI := [.hk (hkG "OWN"), .fn "entry_of" 2 false, .fn "kind_of" 1 true, .hk (hkG "ROWS")]
def b_variable_in : List MP.St := [.ite (.cmp .eq (.idx (.var 0) (.lit (.int 0))) (.call 0 [])) [.asg 4 (.call 1 [.idx (.var 1) (.var 2), .idx (.var 0) (.lit (.int 1))]),
  .ret (.ite (.isN false (.var 4)) (.lit (.int 0)) (.var 4))] [],
  .asg 3 (.comp [5] (.one 5) (.val (.var 1)) (some (.cmp .eq (.call 2 [.var 5]) (.slice (.var 0) (some (.lit (.int 1))) (some (.lit (.int 3)))))) (.var 5)),
  .ret (.ite (.cmp .eq (.idx (.var 0) (.lit (.int 0))) (.call 3 [])) (.blt .len [.var 3]) (.blt .sum [.comp [5] (.one 5) (.val (.var 3)) none (.call 1 [.var 5, .idx (.var 0) (.lit (.int 3))])]))]
def F_variable_in : FS := evDef (fnL [constF (.str "own"), F_entry_of, F_kind_of, constF (.str "rows")]) N_variable_in.length b_variable_in
/-! worth_of -/
def N_worth_of : List Str := ["formula", "table", "index", "found", "monomial", "part", "name"]
def i_worth_of : List FI := [.fn "check_table" 1 true, .fn "is_integer" 3 true, .exc "BadIndex" 5 1, .fn "variable_in" 3 false]
def b_worth_of : List MP.St := [.exp (.call 0 [.var 1]),
  .ite (.not (.call 1 [.var 2, .lit (.int 0), .bin .sub (.blt .len [.var 1]) (.lit (.int 1))])) [.rais 2 5 [.var 2]] [],
  .asg 3 (.lit (.int 0)),
  .for_ (.one 4) (.val (.var 0)) [.asg 5 (.idx (.var 0) (.var 4)),
  .for_ (.one 6) (.val (.var 4)) [.aug 5 .mul (.call 3 [.var 6, .var 1, .var 2])],
  .aug 3 .add (.var 5)],
  .ret (.var 3)]
def F_worth_of : FS := evDef (fnL [F_check_table, F_is_integer, (fun _ _ => .stuck), F_variable_in]) N_worth_of.length b_worth_of
/-! _law_kind -/
def N_law_kind : List Str := ["_law_row"]
def i_law_kind : List FI := []
def b_law_kind : List MP.St := [.ret (.tup [.idx (.var 0) (.lit (.int 0)), .bin .add (.ite (.isN true (.idx (.var 0) (.lit (.int 1)))) (.lit (.str "x")) (.lit (.str ""))) (.ite (.isN true (.idx (.var 0) (.lit (.int 2)))) (.lit (.str "y")) (.lit (.str "")))])]
def F_law_kind : FS := evDef (fnL []) N_law_kind.length b_law_kind
/-! _law_is_variable -/
def N_law_is_variable : List Str := ["_law_thing", "_law_kind", "_law_haves"]
def i_law_is_variable : List FI := []
def b_law_is_variable : List MP.St := [.asg 2 (.lst [.lit (.str ""), .lit (.str "x"), .lit (.str "xy"), .lit (.str "y")]),
  .ite (.cmp .eq (.idx (.var 0) (.lit (.int 0))) (.lit (.str "own"))) [.ret (.and (.cmp .eq (.blt .len [.var 0]) (.lit (.int 2))) (.and (.cmp .in_ (.idx (.var 0) (.lit (.int 1))) (.idx (.var 1) (.lit (.int 1)))) (.cmp .eq (.blt .len [.idx (.var 0) (.lit (.int 1))]) (.lit (.int 1)))))] [],
  .ite (.or (.cmp .nin (.idx (.var 0) (.lit (.int 1))) (.lst [.lit (.str "a"), .lit (.str "b"), .lit (.str "c")])) (.cmp .nin (.idx (.var 0) (.lit (.int 2))) (.var 2))) [.ret (.lit (.bl false))] [],
  .ite (.cmp .eq (.idx (.var 0) (.lit (.int 0))) (.lit (.str "rows"))) [.ret (.cmp .eq (.blt .len [.var 0]) (.lit (.int 3)))] [],
  .ret (.and (.cmp .eq (.idx (.var 0) (.lit (.int 0))) (.lit (.str "sum"))) (.and (.cmp .eq (.blt .len [.var 0]) (.lit (.int 4))) (.and (.cmp .in_ (.idx (.var 0) (.lit (.int 3))) (.idx (.var 0) (.lit (.int 2)))) (.cmp .eq (.blt .len [.idx (.var 0) (.lit (.int 3))]) (.lit (.int 1))))))]
def F_law_is_variable : FS := evDef (fnL []) N_law_is_variable.length b_law_is_variable
/-! _law_kept -/
def N_law_kept : List Str := ["_law_parts_here", "_law_table_here", "_law_row"]
def i_law_kept : List FI := []
def b_law_kept : List MP.St := [.ret (.comp [2] (.one 2) (.val (.var 1)) (some (.cmp .nin (.idx (.var 2) (.lit (.int 0))) (.idx (.var 0) (.lit (.int 0))))) (.var 2))]
def F_law_kept : FS := evDef (fnL []) N_law_kept.length b_law_kept
/-! _law_changed -/
def N_law_changed : List Str := ["_law_h", "_law_parts_here", "_law_table_here", "_law_held", "_law_kind", "_law_other", "_law_later", "_law_word", "_law_at_here", "_law_column", "_law_row", "_law_entry_here", "_law_k", "_law_mark"]
def i_law_changed : List FI := [.fn "_law_next" 2 true, .fn "_law_pick" 2 false, .fn "_law_entry" 1 false, .fn "_law_at" 2 false]
def b_law_changed : List MP.St := [.asg 3 (.comp [12] (.one 12) (.rng [.blt .len [.var 2]]) (some (.cmp .in_ (.idx (.idx (.var 2) (.var 12)) (.lit (.int 0))) (.idx (.var 1) (.lit (.int 0))))) (.var 12)),
  .asg 4 (.call 0 [.var 0, .lit (.int 3)]),
  .ite (.or (.cmp .eq (.var 4) (.lit (.int 0))) (.cmp .eq (.var 3) (.lst []))) [.par [(false, 13), (false, 8)] [.call 1 [.var 0, .blt .list [.idx (.var 1) (.lit (.int 0))]], .call 0 [.var 0, .bin .add (.blt .len [.var 2]) (.lit (.int 1))]],
  .ret (.tup [.tup [.lit (.str "row"), .var 13], .bin .add (.bin .add (.slice (.var 2) none (some (.var 8))) (.lst [.tup [.var 13, .call 2 [.var 0], .call 2 [.var 0]]])) (.slice (.var 2) (some (.var 8)) none)])] [],
  .par [(false, 8), (false, 9)] [.call 1 [.var 0, .var 3], .call 1 [.var 0, .lst [.lit (.str "x"), .lit (.str "y")]]],
  .par [(false, 10), (false, 11)] [.idx (.var 2) (.var 8), .call 3 [.idx (.var 2) (.var 8), .var 9]],
  .ite (.cmp .eq (.var 4) (.lit (.int 1))) [.ret (.tup [.tup [.lit (.str "row"), .idx (.var 10) (.lit (.int 0))], .bin .add (.slice (.var 2) none (some (.var 8))) (.slice (.var 2) (some (.bin .add (.var 8) (.lit (.int 1)))) none)])] [],
  .asg 5 (.call 2 [.var 0]),
  .asg 6 (.ite (.cmp .eq (.var 9) (.lit (.str "x"))) (.tup [.idx (.var 10) (.lit (.int 0)), .var 5, .idx (.var 10) (.lit (.int 2))]) (.tup [.idx (.var 10) (.lit (.int 0)), .idx (.var 10) (.lit (.int 1)), .var 5])),
  .asg 7 (.ite (.and (.isN true (.var 11)) (.isN true (.var 5))) (.lit (.str "number")) (.lit (.str "gap"))),
  .ite (.cmp .eq (.var 11) (.var 5)) [.asg 7 (.lit (.str "nothing"))] [],
  .ret (.tup [.tup [.var 7, .idx (.var 10) (.lit (.int 0)), .var 9], .bin .add (.bin .add (.slice (.var 2) none (some (.var 8))) (.lst [.var 6])) (.slice (.var 2) (some (.bin .add (.var 8) (.lit (.int 1)))) none)])]
def F_law_changed : FS := evDef (fnL [F_law_next, F_law_pick, F_law_entry, F_law_at]) N_law_changed.length b_law_changed
/-! choices -/
def N_choices : List Str := ["things", "many", "found", "at", "thing", "rest"]
def i_choices : List FI := [.fn "choices" 2 true]
def b_choices : List MP.St := [.ite (.cmp .eq (.var 1) (.lit (.int 0))) [.ret (.lst [.lst []])] [],
  .asgO 2 (.lst []),
  .for_ (.tup [3, 4]) (.enum (.var 0)) [.lm .ext 2 [.comp [5] (.one 5) (.val (.call 0 [.slice (.var 0) (some (.var 3)) none, .bin .sub (.var 1) (.lit (.int 1))])) none (.lst [.var 4, .star (.var 5)])]],
  .retO 2]
def F_choices : Nat → FS
  | 0 => fun _ _ => .stuck
  | n + 1 => evDef (fnL [F_choices n]) N_choices.length b_choices
/-! moved_step -/
def N_moved_step : List Str := ["step"]
def i_moved_step : List FI := []
def b_moved_step : List MP.St := [.ite (.or (.cmp .eq (.idx (.var 0) (.lit (.int 0))) (.lit (.str "add"))) (.not (.isi [.tup] (.idx (.var 0) (.lit (.int 2)))))) [.ret (.var 0)] [],
  .ret (.tup [.idx (.var 0) (.lit (.int 0)), .idx (.var 0) (.lit (.int 1)), .tup [.star (.slice (.idx (.var 0) (.lit (.int 2))) none (some (.lit (.int 3)))), .lit (.bl true)]])]
def F_moved_step : FS := evDef (fnL []) N_moved_step.length b_moved_step
/-! moved -/
def N_moved : List Str := ["program", "indexes", "index", "steps"]
def i_moved : List FI := [.fn "is_integer" 3 true, .exc "BadIndex" 5 1, .fn "moved_step" 1 false, .hs (hkMt "with_steps" 1 false)]
def b_moved : List MP.St := [.for_ (.one 2) (.val (.var 1)) [.ite (.not (.call 0 [.var 2, .lit (.int 0), .bin .sub (.blt .len [.fld .rows (.var 0)]) (.lit (.int 1))])) [.rais 1 5 [.var 2]] []],
  .asgO 3 (.blt .list [.fld .rows (.var 0)]),
  .for_ (.one 2) (.val (.var 1)) [.setI 3 (.var 2) (.call 2 [.idx (.pk 3) (.var 2)])],
  .frz 3 (.ret (.call 3 [.var 0, .var 3]))]
def F_moved : FS := evDef (fnL [F_is_integer, (fun _ _ => .stuck), F_moved_step, (mtF "with_steps" F_Program_with_steps)]) N_moved.length b_moved
/-! is_leak -/
def N_is_leak : List Str := ["program", "one", "other", "row"]
def i_is_leak : List FI := [.fn "check_table" 1 true, .fn "told_of" 2 true]
def b_is_leak : List MP.St := [.exp (.call 0 [.var 1]),
  .exp (.call 0 [.var 2]),
  .ite (.cmp .ne (.comp [3] (.one 3) (.val (.var 1)) (some (.cmp .nin (.idx (.var 3) (.lit (.int 0))) (.fld .marks (.var 0)))) (.var 3)) (.comp [3] (.one 3) (.val (.var 2)) (some (.cmp .nin (.idx (.var 3) (.lit (.int 0))) (.fld .marks (.var 0)))) (.var 3))) [.ret (.lit (.bl false))] [],
  .ret (.cmp .ne (.call 1 [.var 0, .var 1]) (.call 1 [.var 0, .var 2]))]
def F_is_leak : FS := evDef (fnL [F_check_table, F_told_of]) N_is_leak.length b_is_leak
/-! _law_told -/
def N_law_told_2 : List Str := ["_law_parts_here", "_law_table_here", "_law_rows_here", "_law_row", "_law_column"]
def i_law_told_2 : List FI := [.fn "_law_done" 2 true, .fn "_law_at" 2 false]
def b_law_told_2 : List MP.St := [.asg 2 (.comp [3] (.one 3) (.val (.call 0 [.var 0, .var 1])) (some (.cmp .nin (.idx (.var 3) (.lit (.int 0))) (.idx (.var 0) (.lit (.int 0))))) (.var 3)),
  .ret (.comp [3] (.one 3) (.val (.var 2)) none (.blt .tuple [.comp [4] (.one 4) (.val (.idx (.var 0) (.lit (.int 2)))) none (.call 1 [.var 3, .var 4])]))]
def F_law_told_2 : FS := evDef (fnL [F_law_done, F_law_at]) N_law_told_2.length b_law_told_2
/-! _law_kinds -/
def N_law_kinds : List Str := ["_law_marks", "_law_found", "_law_mark"]
def i_law_kinds : List FI := []
def b_law_kinds : List MP.St := [.asg 1 (.lst []),
  .for_ (.one 2) (.val (.var 0)) [.asg 1 (.bin .add (.var 1) (.lst [.tup [.var 2, .lit (.bl false), .lit (.bl false)], .tup [.var 2, .lit (.bl true), .lit (.bl false)], .tup [.var 2, .lit (.bl false), .lit (.bl true)]])),
  .asg 1 (.bin .add (.var 1) (.lst [.tup [.var 2, .lit (.bl true), .lit (.bl true)]]))],
  .ret (.var 1)]
def F_law_kinds : FS := evDef (fnL []) N_law_kinds.length b_law_kinds
/-! _law_rows -/
def N_law_rows : List Str := ["_law_h", "_law_kinds_here", "_law_found", "_law_mark", "_law_has_x", "_law_has_y"]
def i_law_rows : List FI := [.fn "_law_next" 2 true]
def b_law_rows : List MP.St := [.asgO 2 (.lst []),
  .for_ (.tup [3, 4, 5]) (.val (.var 1)) [.app 2 (.tup [.var 3, .ite (.var 4) (.bin .add (.lit (.int 1)) (.call 0 [.var 0, .lit (.int 997)])) (.lit (.non)), .ite (.var 5) (.bin .add (.lit (.int 1)) (.call 0 [.var 0, .lit (.int 991)])) (.lit (.non))])],
  .retO 2]
def F_law_rows : FS := evDef (fnL [F_law_next]) N_law_rows.length b_law_rows
/-! _law_shows -/
def N_law_shows : List Str := ["_law_parts_here", "_law_one", "_law_other"]
def i_law_shows : List FI := [.fn "_law_kept" 2 true, .fn "_law_told" 2 true]
def b_law_shows : List MP.St := [.ret (.and (.cmp .eq (.call 0 [.var 0, .var 1]) (.call 0 [.var 0, .var 2])) (.cmp .ne (.call 1 [.var 0, .var 1]) (.call 1 [.var 0, .var 2])))]
def F_law_shows : FS := evDef (fnL [F_law_kept, F_law_told_2]) N_law_shows.length b_law_shows
/-! _law_moved -/
def N_law_moved : List Str := ["_law_steps_here", "_law_some", "_law_found", "_law_index", "_law_word", "_law_column", "_law_worth_here"]
def i_law_moved : List FI := []
def b_law_moved : List MP.St := [.asgO 2 (.blt .list [.var 0]),
  .for_ (.one 3) (.val (.var 1)) [.unp [4, 5, 6] (.idx (.pk 2) (.var 3)),
  .ite (.isi [.tup] (.var 6)) [.setI 2 (.var 3) (.tup [.var 4, .var 5, .bin .add (.slice (.var 6) none (some (.lit (.int 3)))) (.tup [.lit (.bl true)])])] []],
  .retO 2]
def F_law_moved : FS := evDef (fnL []) N_law_moved.length b_law_moved
/-! _law_refused -/
def N_law_refused_2 : List Str := ["_law_program", "_law_indexes", "_law_found", "error"]
def i_law_refused_2 : List FI := [.fn "moved" 2 false]
def b_law_refused_2 : List MP.St := [.asg 2 (.lit (.non)),
  .try_ [5] [.exp (.call 0 [.var 0, .var 1])] [⟨5, (some 3), .asg 2 (.lst [.fld])⟩] [],
  .ret (.var 2)]
def F_law_refused_2 : FS := evDef (fnL [F_moved]) N_law_refused_2.length b_law_refused_2
/-! check_comparable -/
def N_check_comparable : List Str := ["one", "other"]
def i_check_comparable : List FI := [.hk (hkPrp "columns" false), .exc "NotComparable" 7 0]
def b_check_comparable : List MP.St := [.ite (.or (.cmp .ne (.fld .marks (.var 0)) (.fld .marks (.var 1))) (.cmp .ne (.call 0 [.var 0]) (.call 0 [.var 1]))) [.rais 1 7 []] []]
def F_check_comparable : FS := evDef (fnL [(prpF F_Program_columns), (fun _ _ => .stuck)]) N_check_comparable.length b_check_comparable
/-! _law_worked -/
def N_law_worked_2 : List Str := ["_law_parts_here", "_law_worth_here", "_law_mark", "_law_table", "_law_found", "_law_row", "_law_word", "_law_column", "_law_scope", "_law_behind", "_law_is_in"]
def i_law_worked_2 : List FI := [.fn "_law_at" 2 false]
def b_law_worked_2 : List MP.St := [.ite (.isi [.int] (.var 1)) [.ret (.var 1)] [],
  .unp [6, 7, 8, 9] (.var 1),
  .asgO 4 (.lst []),
  .for_ (.one 5) (.val (.var 3)) [.asg 10 (.or (.cmp .eq (.var 8) (.lit (.str "all"))) (.or (.and (.cmp .eq (.var 8) (.lit (.str "same"))) (.cmp .eq (.idx (.var 5) (.lit (.int 0))) (.var 2))) (.and (.cmp .eq (.var 8) (.lit (.str "ahead"))) (.cmp .lt (.idx (.var 5) (.lit (.int 0))) (.var 2))))),
  .ite (.and (.var 10) (.and (.not (.and (.var 9) (.cmp .in_ (.idx (.var 5) (.lit (.int 0))) (.idx (.var 0) (.lit (.int 0)))))) (.isN true (.call 0 [.var 5, .var 7])))) [.app 4 (.call 0 [.var 5, .var 7])] []],
  .ret (.ite (.cmp .eq (.var 6) (.lit (.str "sum"))) (.blt .sum [.pk 4]) (.blt .len [.pk 4]))]
def F_law_worked_2 : FS := evDef (fnL [F_law_at]) N_law_worked_2.length b_law_worked_2
/-! _law_after -/
def N_law_after_2 : List Str := ["_law_parts_here", "_law_step", "_law_table", "_law_found", "_law_row", "_law_entry", "_law_other", "_law_later", "_law_worth_here"]
def i_law_after_2 : List FI := [.fn "_law_at" 2 false, .fn "_law_worked" 4 false]
def b_law_after_2 : List MP.St := [.asgO 3 (.lst []),
  .for_ (.one 4) (.val (.var 2)) [.asg 5 (.call 0 [.var 4, .idx (.var 1) (.lit (.int 1))]),
  .ite (.cmp .eq (.idx (.var 1) (.lit (.int 0))) (.lit (.str "add"))) [.asg 6 (.call 0 [.var 4, .idx (.var 1) (.lit (.int 2))]),
  .asg 7 (.ite (.or (.isN false (.var 5)) (.isN false (.var 6))) (.lit (.non)) (.bin .add (.var 5) (.var 6)))] [.asg 8 (.call 1 [.var 0, .idx (.var 1) (.lit (.int 2)), .idx (.var 4) (.lit (.int 0)), .var 2]),
  .asg 7 (.var 5),
  .ite (.or (.cmp .eq (.idx (.var 1) (.lit (.int 0))) (.lit (.str "put"))) (.and (.cmp .eq (.idx (.var 1) (.lit (.int 0))) (.lit (.str "fill"))) (.isN false (.var 5)))) [.asg 7 (.var 8)] [.ite (.and (.cmp .eq (.idx (.var 1) (.lit (.int 0))) (.lit (.str "less"))) (.isN true (.var 5))) [.asg 7 (.bin .sub (.var 5) (.var 8))] [.ite (.and (.cmp .eq (.idx (.var 1) (.lit (.int 0))) (.lit (.str "times"))) (.isN true (.var 5))) [.asg 7 (.bin .mul (.var 5) (.var 8))] []]]],
  .app 3 (.ite (.cmp .eq (.idx (.var 1) (.lit (.int 1))) (.lit (.str "x"))) (.tup [.idx (.var 4) (.lit (.int 0)), .var 7, .idx (.var 4) (.lit (.int 2))]) (.tup [.idx (.var 4) (.lit (.int 0)), .idx (.var 4) (.lit (.int 1)), .var 7]))],
  .retO 3]
def F_law_after_2 : FS := evDef (fnL [F_law_at, F_law_worked_2]) N_law_after_2.length b_law_after_2
/-! _law_done -/
def N_law_done_2 : List Str := ["_law_parts_here", "_law_table", "_law_step"]
def i_law_done_2 : List FI := [.fn "_law_after" 3 true]
def b_law_done_2 : List MP.St := [.for_ (.one 2) (.val (.idx (.var 0) (.lit (.int 1)))) [.asg 1 (.call 0 [.var 0, .var 2, .var 1])],
  .ret (.blt .list [.var 1])]
def F_law_done_2 : FS := evDef (fnL [F_law_after_2]) N_law_done_2.length b_law_done_2
/-! _law_told -/
def N_law_told_3 : List Str := ["_law_parts_here", "_law_table", "_law_rows_here", "_law_row", "_law_column"]
def i_law_told_3 : List FI := [.fn "_law_done" 2 true, .fn "_law_at" 2 false]
def b_law_told_3 : List MP.St := [.asg 2 (.comp [3] (.one 3) (.val (.call 0 [.var 0, .var 1])) (some (.cmp .nin (.idx (.var 3) (.lit (.int 0))) (.idx (.var 0) (.lit (.int 0))))) (.var 3)),
  .ret (.comp [3] (.one 3) (.val (.var 2)) none (.blt .tuple [.comp [4] (.one 4) (.val (.idx (.var 0) (.lit (.int 2)))) none (.call 1 [.var 3, .var 4])]))]
def F_law_told_3 : FS := evDef (fnL [F_law_done_2, F_law_at]) N_law_told_3.length b_law_told_3
/-! _law_rows -/
def N_law_rows_2 : List Str := ["_law_h", "_law_kinds", "_law_found", "_law_mark", "_law_has_x", "_law_has_y"]
def i_law_rows_2 : List FI := [.fn "_law_next" 2 true]
def b_law_rows_2 : List MP.St := [.asgO 2 (.lst []),
  .for_ (.tup [3, 4, 5]) (.val (.var 1)) [.app 2 (.tup [.var 3, .ite (.var 4) (.bin .add (.lit (.int 1)) (.call 0 [.var 0, .lit (.int 997)])) (.lit (.non)), .ite (.var 5) (.bin .add (.lit (.int 1)) (.call 0 [.var 0, .lit (.int 991)])) (.lit (.non))])],
  .retO 2]
def F_law_rows_2 : FS := evDef (fnL [F_law_next]) N_law_rows_2.length b_law_rows_2
/-! _law_turned -/
def N_law_turned : List Str := ["_law_h", "_law_things", "_law_many", "_law_k", "_law_left", "_law_found"]
def i_law_turned : List FI := [.fn "_law_next" 2 true]
def b_law_turned : List MP.St := [.par [(true, 4), (true, 5)] [.blt .list [.var 1], .lst []],
  .for_ (.one 3) (.rng [.var 2]) [.appLm .popAt 5 4 [.call 0 [.var 0, .blt .len [.pk 4]]]],
  .retO 5]
def F_law_turned : FS := evDef (fnL [F_law_next]) N_law_turned.length b_law_turned
/-! law -/
def N_law_k14 : List Str := ["_law_script", "_law_h", "_law_turn", "_law_shown", "_law_parts_here", "_law_table_here", "_law_program", "_law_order", "_law_rows", "_law_later", "_law_row", "_law_k", "_law_column"]
def i_law_k14 : List FI := [.fn "_law_mix" 2 false, .fn "_law_parts" 2 true, .fn "_law_table" 2 true, .fn "_law_built" 1 false, .fn "_law_turned" 3 true, .hk hkLR, .fn "done" 2 true, .hk (hkSIdx "xy"), .fn "told" 2 true]
def b_law_k14 : List MP.St := [.asg 1 (.call 0 [.var 0, .lit (.int 14)]),
  .for_ (.one 2) (.rng [.lit (.int 5)]) [.par [(false, 4), (false, 5)] [.call 1 [.var 1, .lit (.int 5)], .call 2 [.var 1, .lit (.int 9)]],
  .par [(false, 6), (false, 7)] [.call 3 [.var 4], .call 4 [.var 1, .call 5 [.blt .len [.var 5]], .blt .len [.var 5]]],
  .par [(false, 8), (false, 9)] [.call 6 [.var 6, .var 5], .comp [11] (.one 11) (.val (.var 7)) none (.idx (.var 5) (.var 11))],
  .ite (.cmp .ne (.call 6 [.var 6, .var 9]) (.comp [11] (.one 11) (.val (.var 7)) none (.idx (.var 8) (.var 11)))) [.ret (.lit (.bl false))] [],
  .asg 3 (.comp [10] (.one 10) (.val (.var 8)) none (.blt .tuple [.comp [12] (.one 12) (.val (.idx (.var 4) (.lit (.int 2)))) none (.idx (.var 10) (.bin .add (.lit (.int 1)) (.call 7 [.var 12])))])),
  .ite (.cmp .ne (.call 8 [.var 6, .var 9]) (.comp [11] (.one 11) (.val (.var 7)) (some (.cmp .nin (.idx (.idx (.var 5) (.var 11)) (.lit (.int 0))) (.idx (.var 4) (.lit (.int 0))))) (.idx (.var 3) (.var 11)))) [.ret (.lit (.bl false))] [],
  .ite (.or (.cmp .ne (.call 6 [.var 6, .bin .add (.var 5) (.lst [])]) (.var 8)) (.cmp .ne (.blt .len [.var 8]) (.blt .len [.var 5]))) [.ret (.lit (.bl false))] [],
  .ite (.cmp .ne (.comp [10] (.one 10) (.val (.var 8)) none (.idx (.var 10) (.lit (.int 0)))) (.comp [10] (.one 10) (.val (.var 5)) none (.idx (.var 10) (.lit (.int 0))))) [.ret (.lit (.bl false))] []],
  .ret (.lit (.bl true))]
def F_law_k14 : FS := evDef (fnL [F_law_mix, F_law_parts, F_law_table, F_law_built, F_law_turned, lrF, F_done, sidxF "xy", F_told]) N_law_k14.length b_law_k14
/-! _law_sum -/
def N_law_sum : List Str := ["_law_one", "_law_other", "_law_many"]
def i_law_sum : List FI := []
def b_law_sum : List MP.St := [.ret (.ite (.isN false (.var 0)) (.lit (.non)) (.bin .add (.var 0) (.bin .mul (.var 2) (.var 1))))]
def F_law_sum : FS := evDef (fnL []) N_law_sum.length b_law_sum
/-! law -/
def N_law_k15 : List Str := ["_law_script", "_law_h", "_law_turn", "_law_plain", "_law_step", "_law_both", "_law_held", "_law_steps_here", "_law_columns", "_law_program", "_law_one", "_law_other", "_law_many", "_law_mark", "_law_x", "_law_y", "_law_first", "_law_second", "_law_rows", "_law_later", "_law_due"]
def i_law_k15 : List FI := [.fn "_law_mix" 2 false, .fn "_law_parts" 2 true, .hk (hkNew "Program" 3), .fn "_law_table" 2 true, .fn "_law_next" 2 true, .fn "_law_sum" 3 true, .fn "done" 2 true]
def b_law_k15 : List MP.St := [.asg 1 (.call 0 [.var 0, .lit (.int 15)]),
  .for_ (.one 2) (.rng [.lit (.int 5)]) [.unp [6, 7, 8] (.call 1 [.var 1, .lit (.int 5)]),
  .asgO 3 (.lst []),
  .for_ (.one 4) (.val (.var 7)) [.ite (.cmp .eq (.idx (.var 4) (.lit (.int 0))) (.lit (.str "times"))) [.asg 4 (.bin .add (.tup [.lit (.str "less")]) (.slice (.var 4) (some (.lit (.int 1))) none))] [],
  .ite (.isi [.int] (.idx (.var 4) (.lit (.int 2)))) [.asg 4 (.bin .add (.slice (.var 4) none (some (.lit (.int 2)))) (.tup [.lit (.int 0)]))] [.ite (.isi [.tup] (.idx (.var 4) (.lit (.int 2)))) [.asg 4 (.bin .add (.slice (.var 4) none (some (.lit (.int 2)))) (.tup [.bin .add (.tup [.lit (.str "sum")]) (.slice (.idx (.var 4) (.lit (.int 2))) (some (.lit (.int 1))) none)]))] []],
  .app 3 (.var 4)],
  .frz 3 (.par [(false, 9), (false, 10)] [.call 2 [.var 6, .var 3, .var 8], .call 3 [.var 1, .lit (.int 8)]]),
  .par [(true, 11), (false, 12)] [.lst [], .bin .sub (.call 4 [.var 1, .lit (.int 9)]) (.lit (.int 4))],
  .for_ (.tup [13, 14, 15]) (.val (.var 10)) [.asg 14 (.ite (.isN false (.var 14)) (.lit (.non)) (.bin .sub (.call 4 [.var 1, .lit (.int 50)]) (.lit (.int 20)))),
  .asg 15 (.ite (.isN false (.var 15)) (.lit (.non)) (.bin .sub (.call 4 [.var 1, .lit (.int 50)]) (.lit (.int 25)))),
  .app 11 (.tup [.var 13, .var 14, .var 15])],
  .asgO 5 (.lst []),
  .frz 11 (.for_ (.tup [16, 17]) (.zip (.var 10) (.var 11)) [.app 5 (.tup [.idx (.var 16) (.lit (.int 0)), .call 5 [.idx (.var 16) (.lit (.int 1)), .idx (.var 17) (.lit (.int 1)), .var 12], .call 5 [.idx (.var 16) (.lit (.int 2)), .idx (.var 17) (.lit (.int 2)), .var 12]])]),
  .frz 11 (.par [(false, 18), (false, 19), (true, 20)] [.call 6 [.var 9, .var 10], .call 6 [.var 9, .var 11], .lst []]),
  .for_ (.tup [16, 17]) (.zip (.var 18) (.var 19)) [.app 20 (.tup [.idx (.var 16) (.lit (.int 0)), .call 5 [.idx (.var 16) (.lit (.int 1)), .idx (.var 17) (.lit (.int 1)), .var 12], .call 5 [.idx (.var 16) (.lit (.int 2)), .idx (.var 17) (.lit (.int 2)), .var 12]])],
  .frz 5 (.ite (.cmp .ne (.call 6 [.var 9, .var 5]) (.pk 20)) [.ret (.lit (.bl false))] [])],
  .ret (.lit (.bl true))]
def F_law_k15 : FS := evDef (fnL [F_law_mix, F_law_parts, F_new_Program, F_law_table, F_law_next, F_law_sum, F_done]) N_law_k15.length b_law_k15
/-! step_line -/
def N_step_line : List Str := ["step", "words", "word", "column", "what"]
def i_step_line : List FI := [.hs hkF3, .hk (hkG "BEHIND")]
def b_step_line : List MP.St := [.unp [2, 3, 4] (.var 0),
  .ite (.not (.isi [.tup] (.var 4))) [.ret (.call 0 [.var 2, .var 3, .var 4])] [],
  .asg 1 (.lst [.var 2, .var 3, .star (.slice (.var 4) none (some (.lit (.int 3))))]),
  .ret (.join (.lit (.str " ")) (.ite (.idx (.var 4) (.lit (.int 3))) (.lst [.star (.var 1), .call 1 []]) (.var 1)))]
def F_step_line : FS := evDef (fnL [f3F, constF (.str "behind")]) N_step_line.length b_step_line
/-! write -/
def N_write : List Str := ["program", "step"]
def i_write : List FI := [.hk (hkPrp "held" false), .hk (hkPrp "steps" false), .fn "step_line" 1 true, .hk (hkPrp "columns" false)]
def b_write : List MP.St := [.ret (.join (.lit (.str "\n")) (.lst [.bin .add (.lit (.str "held ")) (.call 0 [.var 0]), .star (.comp [1] (.one 1) (.val (.call 1 [.var 0])) none (.call 2 [.var 1])), .bin .add (.lit (.str "told ")) (.call 3 [.var 0])]))]
def F_write : FS := evDef (fnL [(prpF F_Program_held), (prpF F_Program_steps), F_step_line, (prpF F_Program_columns)]) N_write.length b_write
/-! number_of -/
def N_number_of : List Str := ["word", "digits", "sign"]
def i_number_of : List FI := [.hk (hkG "DIGITS")]
def b_number_of : List MP.St := [.asg 1 (.ite (.cmp .eq (.slice (.var 0) none (some (.lit (.int 1)))) (.lit (.str "-"))) (.slice (.var 0) (some (.lit (.int 1))) none) (.var 0)),
  .ite (.or (.cmp .eq (.var 1) (.lit (.str ""))) (.not (.blt .all [.comp [2] (.one 2) (.val (.var 1)) none (.cmp .in_ (.var 2) (.call 0 []))]))) [.ret (.var 0)] [],
  .ite (.and (.cmp .eq (.idx (.var 1) (.lit (.int 0))) (.lit (.str "0"))) (.cmp .ne (.var 0) (.lit (.str "0")))) [.ret (.var 0)] [],
  .ret (.ite (.cmp .eq (.blt .len [.var 1]) (.lit (.int 1))) (.blt .int [.var 0]) (.var 0))]
def F_number_of : FS := evDef (fnL [constF (.str "0123456789")]) N_number_of.length b_number_of
/-! step_of -/
def N_step_of : List Str := ["words"]
def i_step_of : List FI := [.fn "number_of" 1 false, .hk (hkG "BEHIND")]
def b_step_of : List MP.St := [.ite (.cmp .eq (.blt .len [.var 0]) (.lit (.int 3))) [.ret (.tup [.idx (.var 0) (.lit (.int 0)), .idx (.var 0) (.lit (.int 1)), .ite (.cmp .eq (.idx (.var 0) (.lit (.int 0))) (.lit (.str "add"))) (.idx (.var 0) (.lit (.int 2))) (.call 0 [.idx (.var 0) (.lit (.int 2))])])] [],
  .ite (.and (.cmp .eq (.blt .len [.var 0]) (.lit (.int 6))) (.cmp .eq (.idx (.var 0) (.lit (.int 5))) (.call 1 []))) [.ret (.tup [.idx (.var 0) (.lit (.int 0)), .idx (.var 0) (.lit (.int 1)), .tup [.star (.slice (.var 0) (some (.lit (.int 2))) (some (.lit (.int 5)))), .lit (.bl true)]])] [],
  .ret (.ite (.cmp .eq (.blt .len [.var 0]) (.lit (.int 5))) (.tup [.idx (.var 0) (.lit (.int 0)), .idx (.var 0) (.lit (.int 1)), .tup [.star (.slice (.var 0) (some (.lit (.int 2))) (some (.lit (.int 5)))), .lit (.bl false)]]) (.lit (.non)))]
def F_step_of : FS := evDef (fnL [F_number_of, constF (.str "behind")]) N_step_of.length b_step_of
/-! read_head -/
def N_read_head : List Str := ["line", "is_good"]
def i_read_head : List FI := [.exc "BadLine" 8 1, .fn "check_held" 1 true]
def b_read_head : List MP.St := [.ite (.cmp .ne (.slice (.var 0) none (some (.lit (.int 5)))) (.lit (.str "held "))) [.rais 0 8 [.lit (.int 1)]] [],
  .try_ [2] [.exp (.call 1 [.slice (.var 0) (some (.lit (.int 5))) none])] [⟨2, none, .asg 1 (.at_ (.lit (.bl false)))⟩] [.asg 1 (.lit (.bl true))],
  .ite (.not (.var 1)) [.rais 0 8 [.lit (.int 1)]] [],
  .ret (.slice (.var 0) (some (.lit (.int 5))) none)]
def F_read_head : FS := evDef (fnL [(fun _ _ => .stuck), F_check_held]) N_read_head.length b_read_head
/-! are_steps -/
def N_are_steps : List Str := ["steps"]
def i_are_steps : List FI := [.fn "check_steps" 1 true]
def b_are_steps : List MP.St := [.try_ [3] [.exp (.call 0 [.var 0])] [⟨3, none, .ret (.at_ (.lit (.bl false)))⟩] [],
  .ret (.lit (.bl true))]
def F_are_steps : FS := evDef (fnL [F_check_steps]) N_are_steps.length b_are_steps
/-! read -/
def N_read : List Str := ["text", "lines", "held", "steps", "index", "line"]
def i_read : List FI := [.hk (hkSplit "\n"), .fn "read_head" 1 true, .exc "BadLine" 8 1, .hk (hkNew "Program" 3), .fn "step_of" 1 true, .hk (hkSplit " "), .fn "are_steps" 1 true]
def b_read : List MP.St := [.asg 1 (.call 0 [.var 0]),
  .par [(false, 2), (true, 3)] [.call 1 [.idx (.var 1) (.lit (.int 0))], .lst []],
  .for_ (.tup [4, 5]) (.enum (.slice (.var 1) (some (.lit (.int 1))) none)) [.ite (.cmp .in_ (.var 5) (.tup [.lit (.str "told x"), .lit (.str "told y"), .lit (.str "told xy")])) [.ite (.cmp .lt (.bin .add (.var 4) (.lit (.int 2))) (.blt .len [.var 1])) [.rais 2 8 [.bin .add (.var 4) (.lit (.int 3))]] [],
  .frz 3 (.ret (.call 3 [.var 2, .var 3, .slice (.var 5) (some (.lit (.int 5))) none]))] [],
  .app 3 (.call 4 [.call 5 [.var 5]]),
  .ite (.not (.callT 3 6 [.var 3])) [.rais 2 8 [.bin .add (.var 4) (.lit (.int 2))]] []],
  .rais 2 8 [.bin .add (.blt .len [.var 1]) (.lit (.int 1))]]
def F_read : FS := evDef (fnL [splitF "\n", F_read_head, (fun _ _ => .stuck), F_new_Program, F_step_of, splitF " ", F_are_steps]) N_read.length b_read
/-! _law_line -/
def N_law_line : List Str := ["_law_step", "_law_words", "_law_word", "_law_column", "_law_what"]
def i_law_line : List FI := []
def b_law_line : List MP.St := [.unp [2, 3, 4] (.var 0),
  .ite (.not (.isi [.tup] (.var 4))) [.ret (.bin .add (.bin .add (.bin .add (.bin .add (.var 2) (.lit (.str " "))) (.var 3)) (.lit (.str " "))) (.blt .str [.var 4]))] [],
  .asg 1 (.lst [.var 2, .var 3, .idx (.var 4) (.lit (.int 0)), .idx (.var 4) (.lit (.int 1)), .idx (.var 4) (.lit (.int 2))]),
  .ret (.bin .add (.join (.lit (.str " ")) (.var 1)) (.ite (.idx (.var 4) (.lit (.int 3))) (.lit (.str " behind")) (.lit (.str ""))))]
def F_law_line : FS := evDef (fnL []) N_law_line.length b_law_line
/-! _law_lines -/
def N_law_lines : List Str := ["_law_parts_here", "_law_step"]
def i_law_lines : List FI := [.fn "_law_line" 1 true]
def b_law_lines : List MP.St := [.ret (.bin .add (.bin .add (.lst [.bin .add (.lit (.str "held ")) (.idx (.var 0) (.lit (.int 0)))]) (.comp [1] (.one 1) (.val (.idx (.var 0) (.lit (.int 1)))) none (.call 0 [.var 1]))) (.lst [.bin .add (.lit (.str "told ")) (.idx (.var 0) (.lit (.int 2)))]))]
def F_law_lines : FS := evDef (fnL [F_law_line]) N_law_lines.length b_law_lines
/-! law -/
def N_law_k20 : List Str := ["_law_script", "_law_h", "_law_turn", "_law_parts_here", "_law_text"]
def i_law_k20 : List FI := [.fn "_law_mix" 2 false, .fn "_law_parts" 2 true, .fn "_law_lines" 1 true, .fn "write" 1 true, .fn "_law_built" 1 false, .ht hkEqP, .fn "read" 1 false]
def b_law_k20 : List MP.St := [.asg 1 (.call 0 [.var 0, .lit (.int 20)]),
  .for_ (.one 2) (.rng [.lit (.int 6)]) [.asg 3 (.call 1 [.var 1, .lit (.int 5)]),
  .asg 4 (.join (.lit (.str "\n")) (.call 2 [.var 3])),
  .ite (.or (.cmp .ne (.call 3 [.call 4 [.var 3]]) (.var 4)) (.not (.call 5 [.call 6 [.var 4], .call 4 [.var 3]]))) [.ret (.lit (.bl false))] []],
  .ret (.lit (.bl true))]
def F_law_k20 : FS := evDef (fnL [F_law_mix, F_law_parts, F_law_lines, F_write, F_law_built, (eqpF F_Program_eq), F_read]) N_law_k20.length b_law_k20
/-! _law_is_number -/
def N_law_is_number : List Str := ["_law_word", "_law_numeral"]
def i_law_is_number : List FI := []
def b_law_is_number : List MP.St := [.ret (.cmp .in_ (.var 0) (.comp [1] (.one 1) (.rng [.neg (.lit (.int 9)), .lit (.int 10)]) none (.blt .str [.var 1])))]
def F_law_is_number : FS := evDef (fnL []) N_law_is_number.length b_law_is_number
/-! _law_is_line -/
def N_law_is_line : List Str := ["_law_line_here", "_law_words"]
def i_law_is_line : List FI := [.hk (hkSplit " "), .fn "_law_is_number" 1 true]
def b_law_is_line : List MP.St := [.asg 1 (.call 0 [.var 0]),
  .ite (.or (.cmp .lt (.blt .len [.var 1]) (.lit (.int 3))) (.cmp .nin (.idx (.var 1) (.lit (.int 1))) (.lst [.lit (.str "x"), .lit (.str "y")]))) [.ret (.lit (.bl false))] [],
  .ite (.cmp .eq (.idx (.var 1) (.lit (.int 0))) (.lit (.str "add"))) [.ret (.and (.cmp .eq (.blt .len [.var 1]) (.lit (.int 3))) (.cmp .in_ (.idx (.var 1) (.lit (.int 2))) (.lst [.lit (.str "x"), .lit (.str "y")])))] [],
  .ite (.cmp .nin (.idx (.var 1) (.lit (.int 0))) (.lst [.lit (.str "fill"), .lit (.str "less"), .lit (.str "times"), .lit (.str "put")])) [.ret (.lit (.bl false))] [],
  .ite (.cmp .eq (.blt .len [.var 1]) (.lit (.int 3))) [.ret (.call 1 [.idx (.var 1) (.lit (.int 2))])] [],
  .ite (.and (.cmp .eq (.blt .len [.var 1]) (.lit (.int 6))) (.cmp .eq (.idx (.var 1) (.lit (.int 5))) (.lit (.str "behind")))) [.asg 1 (.slice (.var 1) none (some (.lit (.int 5))))] [],
  .ite (.or (.cmp .ne (.blt .len [.var 1]) (.lit (.int 5))) (.cmp .nin (.idx (.var 1) (.lit (.int 2))) (.lst [.lit (.str "sum"), .lit (.str "count")]))) [.ret (.lit (.bl false))] [],
  .ret (.and (.cmp .in_ (.idx (.var 1) (.lit (.int 3))) (.lst [.lit (.str "x"), .lit (.str "y")])) (.cmp .in_ (.idx (.var 1) (.lit (.int 4))) (.lst [.lit (.str "all"), .lit (.str "same"), .lit (.str "ahead")])))]
def F_law_is_line : FS := evDef (fnL [splitF " ", F_law_is_number]) N_law_is_line.length b_law_is_line
/-! _law_wrong -/
def N_law_wrong : List Str := ["_law_lines_here", "_law_many_times", "_law_k", "_law_held"]
def i_law_wrong : List FI := [.fn "_law_is_line" 1 true]
def b_law_wrong : List MP.St := [.ite (.cmp .nin (.idx (.var 0) (.lit (.int 0))) (.comp [3] (.one 3) (.val (.lst [.lit (.str "a"), .lit (.str "b"), .lit (.str "c"), .lit (.str "ab"), .lit (.str "ac"), .lit (.str "bc")])) none (.bin .add (.lit (.str "held ")) (.var 3)))) [.ret (.lit (.int 1))] [],
  .asg 1 (.lit (.int 0)),
  .for_ (.one 2) (.rng [.lit (.int 1), .blt .len [.var 0]]) [.ite (.cmp .in_ (.idx (.var 0) (.var 2)) (.lst [.lit (.str "told x"), .lit (.str "told y"), .lit (.str "told xy")])) [.ret (.ite (.cmp .lt (.bin .add (.var 2) (.lit (.int 1))) (.blt .len [.var 0])) (.bin .add (.var 2) (.lit (.int 2))) (.lit (.non)))] [],
  .asg 1 (.bin .add (.var 1) (.blt .int [.cmp .eq (.slice (.idx (.var 0) (.var 2)) none (some (.lit (.int 6)))) (.lit (.str "times "))])),
  .ite (.or (.cmp .gt (.var 2) (.lit (.int 5))) (.or (.not (.call 0 [.idx (.var 0) (.var 2)])) (.cmp .gt (.var 1) (.lit (.int 1))))) [.ret (.bin .add (.var 2) (.lit (.int 1)))] []],
  .ret (.bin .add (.blt .len [.var 0]) (.lit (.int 1)))]
def F_law_wrong : FS := evDef (fnL [F_law_is_line]) N_law_wrong.length b_law_wrong
/-! _law_told -/
def N_law_told_4 : List Str := ["_law_text", "_law_found", "error"]
def i_law_told_4 : List FI := [.fn "read" 1 false]
def b_law_told_4 : List MP.St := [.asg 1 (.lit (.non)),
  .try_ [8] [.exp (.call 0 [.var 0])] [⟨8, (some 2), .asg 1 (.ifr (.at_ (.fld)))⟩] [],
  .ret (.var 1)]
def F_law_told_4 : FS := evDef (fnL [F_read]) N_law_told_4.length b_law_told_4
/-! law -/
def N_law_k21 : List Str := ["_law_script", "_law_h", "_law_odd", "_law_turn", "_law_lines_here", "_law_change", "_law_kind", "_law_at"]
def i_law_k21 : List FI := [.fn "_law_mix" 2 false, .fn "_law_lines" 1 true, .fn "_law_parts" 2 true, .fn "_law_next" 2 true, .fn "_law_pick" 2 false, .fn "_law_alike" 2 false, .fn "_law_told" 1 false, .fn "_law_wrong" 1 true]
def b_law_k21 : List MP.St := [.asg 1 (.call 0 [.var 0, .lit (.int 21)]),
  .asg 2 (.lst [.lit (.str ""), .lit (.str "held a"), .lit (.str "held ba"), .lit (.str "held abc"), .lit (.str "told"), .lit (.str "told x "), .lit (.str "told yx"), .lit (.str "fill x")]),
  .asg 2 (.bin .add (.var 2) (.lst [.lit (.str "fill x 10"), .lit (.str "fill x -0"), .lit (.str "fill x 03"), .lit (.str "fill x +3")])),
  .asg 2 (.bin .add (.var 2) (.lst [.lit (.str "fill z 3"), .lit (.str "add x 3"), .lit (.str "add x y behind"), .lit (.str "less x sum x"), .lit (.str "less x sum x none")])),
  .asg 2 (.bin .add (.var 2) (.lst [.lit (.str "less x sum z all"), .lit (.str "put x 3 behind")])),
  .asg 2 (.bin .add (.var 2) (.lst [.lit (.str "put y sum x all Behind"), .lit (.str "put  y 3"), .lit (.str " put y 3"), .lit (.str "put y 3 "), .lit (.str "times x 2")])),
  .asg 2 (.bin .add (.var 2) (.lst [.lit (.str "times y sum x all behind"), .lit (.str "sum x 3"), .lit (.str "told y")])),
  .asg 2 (.bin .add (.var 2) (.lst [.lit (.str "fill x --3"), .lit (.str "fill x -"), .lit (.str "fill x -9"), .lit (.str "less y count y same behind"), .lit (.str "held c")])),
  .for_ (.one 3) (.rng [.lit (.int 8)]) [.asgO 4 (.call 1 [.call 2 [.var 1, .lit (.int 5)]]),
  .for_ (.one 5) (.rng [.call 3 [.var 1, .lit (.int 3)]]) [.par [(false, 6), (false, 7)] [.call 3 [.var 1, .lit (.int 4)], .call 3 [.var 1, .bin .add (.blt .len [.pk 4]) (.lit (.int 1))]],
  .ite (.cmp .eq (.var 6) (.lit (.int 0))) [.lm .ins 4 [.var 7, .call 4 [.var 1, .var 2]]] [.ite (.and (.cmp .eq (.var 6) (.lit (.int 1))) (.cmp .lt (.var 7) (.blt .len [.pk 4]))) [.asgO 4 (.bin .add (.bin .add (.slice (.pk 4) none (some (.var 7))) (.lst [.call 4 [.var 1, .var 2]])) (.slice (.pk 4) (some (.bin .add (.var 7) (.lit (.int 1)))) none))] [.ite (.and (.cmp .eq (.var 6) (.lit (.int 2))) (.and (.cmp .gt (.blt .len [.pk 4]) (.lit (.int 1))) (.cmp .lt (.var 7) (.blt .len [.pk 4])))) [.asgO 4 (.bin .add (.slice (.pk 4) none (some (.var 7))) (.slice (.pk 4) (some (.bin .add (.var 7) (.lit (.int 1)))) none))] [.ite (.cmp .lt (.var 7) (.blt .len [.pk 4])) [.asgO 4 (.bin .add (.bin .add (.slice (.pk 4) none (some (.var 7))) (.lst [.idx (.pk 4) (.var 7)])) (.slice (.pk 4) (some (.var 7)) none))] []]]]],
  .frz 4 (.ite (.not (.call 5 [.call 6 [.join (.lit (.str "\n")) (.pk 4)], .call 7 [.var 4]])) [.ret (.lit (.bl false))] [])],
  .ite (.or (.cmp .ne (.call 6 [.lit (.str "")]) (.lit (.int 1))) (.cmp .ne (.call 6 [.lit (.str "held a")]) (.lit (.int 2)))) [.ret (.lit (.bl false))] [],
  .ret (.cmp .eq (.call 6 [.lit (.str "held a\ntold x\n")]) (.lit (.int 3)))]
def F_law_k21 : FS := evDef (fnL [F_law_mix, F_law_lines, F_law_parts, F_law_next, F_law_pick, (F_law_alike 6), F_law_told_4, F_law_wrong]) N_law_k21.length b_law_k21
/-! Desk_init -/
def N_Desk_init : List Str := ["self", "program", "table"]
def i_Desk_init : List FI := [.fn "check_table" 1 true, .hf "now", .hf "past", .hf "future", .hf "origin", .hf "inner"]
def b_Desk_init : List MP.St := [.exp (.call 0 [.var 2]),
  .fset 1 "now" (.var 0) (.tup [.var 1, .blt .tuple [.var 2]]),
  .fset 2 "past" (.var 0) (.cell (.lst [])),
  .fset 3 "future" (.var 0) (.cell (.lst [])),
  .fset 4 "origin" (.var 0) (.lit (.non)),
  .fset 5 "inner" (.var 0) (.lit (.non))]
def F_Desk_init : FS := evDef (fnL [F_check_table, (fun _ _ => .stuck), (fun _ _ => .stuck), (fun _ _ => .stuck), (fun _ _ => .stuck), (fun _ _ => .stuck)]) N_Desk_init.length b_Desk_init
/-! _law_ask -/
def N_law_ask : List Str := ["_law_numeral", "_law_program", "_law_table_here"]
def i_law_ask : List FI := [.fn "check_table" 1 true, .fn "done" 2 true, .fn "done_by" 3 true, .fn "told" 2 true, .fn "worth_of" 3 false, .fn "is_leak" 3 true, .hk (hkNew "Desk" 2)]
def b_law_ask : List MP.St := [.ite (.cmp .eq (.var 0) (.lit (.int 0))) [.ret (.call 0 [.var 2])] [],
  .ite (.cmp .eq (.var 0) (.lit (.int 1))) [.ret (.call 1 [.var 1, .var 2])] [],
  .ite (.cmp .eq (.var 0) (.lit (.int 2))) [.ret (.call 2 [.var 1, .var 2, .lit (.int 99)])] [],
  .ite (.cmp .eq (.var 0) (.lit (.int 3))) [.ret (.call 3 [.var 1, .var 2])] [],
  .ite (.cmp .eq (.var 0) (.lit (.int 4))) [.ret (.call 4 [.dic0, .var 2, .neg (.lit (.int 1))])] [],
  .ite (.cmp .eq (.var 0) (.lit (.int 5))) [.ret (.call 5 [.var 1, .var 2, .lit (.non)])] [],
  .ret (.call 6 [.var 1, .var 2])]
def F_law_ask : FS := evDef (fnL [F_check_table, F_done, F_done_by, F_told, F_worth_of, F_is_leak, (newCF F_Desk_init)]) N_law_ask.length b_law_ask
/-! _law_refused -/
def N_law_refused_3 : List Str := ["_law_numeral", "_law_program", "_law_table_here", "_law_answer", "error"]
def i_law_refused_3 : List FI := [.fn "_law_ask" 3 false]
def b_law_refused_3 : List MP.St := [.asg 3 (.lit (.non)),
  .try_ [1, 2, 3, 4, 5] [.exp (.call 0 [.var 0, .var 1, .var 2])] [⟨1, (some 4), .asg 3 (.at_ (.fld))⟩, ⟨0, none, .asg 3 (.at_ (.lit (.str "other")))⟩] [],
  .ret (.var 3)]
def F_law_refused_3 : FS := evDef (fnL [F_law_ask]) N_law_refused_3.length b_law_refused_3
/-! law -/
def N_law_k02 : List Str := ["_law_script", "_law_h", "_law_odd", "_law_turn", "_law_wrong", "_law_numeral", "_law_answers", "_law_program", "_law_table_here", "_law_at", "_law_one"]
def i_law_k02 : List FI := [.fn "_law_mix" 2 false, .fn "_law_built" 1 false, .fn "_law_parts" 2 true, .fn "_law_table" 2 true, .fn "_law_next" 2 true, .fn "_law_pick" 2 false, .fn "_law_alike" 2 false, .fn "_law_refused" 3 false, .fn "check_table" 1 true]
def b_law_k02 : List MP.St := [.asg 1 (.call 0 [.var 0, .lit (.int 2)]),
  .asg 2 (.lst [.lit (.non), .lit (.int 5), .lit (.str "row"), .tup [.lit (.str "a"), .lit (.int 1)], .tup [.lit (.str "a"), .lit (.int 1), .lit (.int 2), .lit (.int 3)], .lst [.lit (.str "a"), .lit (.int 1), .lit (.int 2)], .tup [.lit (.str "d"), .lit (.int 1), .lit (.int 2)], .tup [.lit (.str "ab"), .lit (.int 1), .lit (.int 2)]]),
  .asg 2 (.bin .add (.var 2) (.lst [.tup [.lit (.str ""), .lit (.int 1), .lit (.int 2)], .tup [.lit (.str "a"), .lit (.bl true), .lit (.int 1)], .tup [.lit (.str "a"), .lit (.int 1), .lit (.str "2")]])),
  .asg 2 (.bin .add (.var 2) (.lst [.tup [.lit (.str "a"), .lit (.int 1), .tup [.lit (.int 1)]], .tup [.lit (.non), .lit (.int 1), .lit (.int 2)], .tup [.lit (.int 1), .lit (.int 1), .lit (.int 2)], .dic0, .tup [], .tup [.lit (.str "a"), .lst [], .lit (.non)], .tup [.lit (.str "b"), .lit (.non), .lit (.bl false)]])),
  .for_ (.one 3) (.rng [.lit (.int 4)]) [.par [(false, 7), (false, 8)] [.call 1 [.call 2 [.var 1, .lit (.int 3)]], .call 3 [.var 1, .lit (.int 5)]],
  .par [(false, 9), (false, 10)] [.call 4 [.var 1, .bin .add (.blt .len [.var 8]) (.lit (.int 1))], .call 5 [.var 1, .var 2]],
  .asg 4 (.bin .add (.bin .add (.bin .add (.slice (.var 8) none (some (.var 9))) (.lst [.var 10])) (.slice (.var 8) (some (.var 9)) none)) (.lst [.lit (.non)])),
  .for_ (.one 5) (.rng [.lit (.int 7)]) [.ite (.not (.call 6 [.call 7 [.var 5, .var 7, .var 4], .var 9])) [.ret (.lit (.bl false))] [],
  .ite (.or (.cmp .ne (.call 7 [.var 5, .var 7, .blt .tuple [.var 8]]) (.neg (.lit (.int 1)))) (.cmp .ne (.call 7 [.var 5, .var 7, .lit (.non)]) (.neg (.lit (.int 1))))) [.ret (.lit (.bl false))] []],
  .ite (.or (.isN true (.call 8 [.var 8])) (.cmp .ne (.call 7 [.lit (.int 5), .var 7, .var 8]) (.neg (.lit (.int 1))))) [.ret (.lit (.bl false))] [],
  .asg 6 (.comp [5] (.one 5) (.val (.lst [.lit (.int 1), .lit (.int 2), .lit (.int 3), .lit (.int 4), .lit (.int 6)])) none (.call 7 [.var 5, .var 7, .var 8])),
  .ite (.cmp .ne (.var 6) (.lst [.lit (.non), .lit (.str "other"), .lit (.non), .lit (.str "other"), .lit (.non)])) [.ret (.lit (.bl false))] []],
  .ret (.lit (.bl true))]
def F_law_k02 : FS := evDef (fnL [F_law_mix, F_law_built, F_law_parts, F_law_table, F_law_next, F_law_pick, (F_law_alike 6), F_law_refused_3, F_check_table]) N_law_k02.length b_law_k02
end PG

namespace PG
open PySem MP
/-- the drawing state -/
def HSt (T : Sto) (S : Sto) : Prop := ∃ (ns : List Int) (a i : Int), ns.length ≤ 63 ∧ 0 ≤ i ∧ S = .lst (ns.map .int) :: .lst [.int a, .ref 0, .int i] :: T
abbrev HS (S : Sto) : Prop := HSt [] S
theorem next_ok {T S : Sto} {cap : Int} (h : (HSt T) S) (h1 : 1 ≤ cap) (h2 : cap < 1073741824) : Rs (F_law_next [.ref 1, .int cap] S) fun d S' => ∃ r, d = .int r ∧ 0 ≤ r ∧ r < cap ∧ (HSt T) S' := by
  obtain ⟨ns, a, i, hl, hi, rfl⟩ := h
  have hB : BIG = 16777216 := rfl
  have e1 : (ns.map D.int ++ [D.int 0]).length ≤ BIG := by simp; omega
  have e0 : 1 ≤ BIG := by omega
  have m0 : (0 : Int) < (if ((ns.map D.int).length : Int) > 1 then ((ns.map D.int).length : Int) else 1) := by split <;> omega
  have m1 := Int.emod_nonneg i (Int.ne_of_gt m0)
  have m2 := Int.emod_lt_of_pos i m0
  have m3 : (if ((ns.map D.int).length : Int) > 1 then ((ns.map D.int).length : Int) else 1) ≤ ns.length + 1 := by rw [List.length_map]; split <;> omega
  obtain ⟨c, c1, c2⟩ := atI_pos (xs := ns.map D.int ++ [D.int 0]) m1 (by have := Int.lt_of_lt_of_le m2 m3; simpa using this)
  obtain ⟨z, rfl⟩ : ∃ z, c = .int z := by
    have := List.mem_of_getElem? c2
    simp at this
    rcases this with ⟨z, _, rfl⟩ | rfl
    · exact ⟨z, rfl⟩
    · exact ⟨0, rfl⟩
  have k1 : (0 : Int) < 2147483647 := by decide
  have k2 : (0 : Int) < 7 := by decide
  have k3 : (7 : Int) < 1073741824 := by decide
  have k4 : (0 : Int) < cap := by omega
  have q1 : small 48271 = true := by decide
  have q2 : small 69621 = true := by decide
  have i0 : L2.ixN 3 0 = some 0 := by decide
  have i2 : L2.ixN 3 2 = some 2 := by decide
  by_cases hz : (1000000000000000000 : Int) ≤ z
  · have hn : ns ≠ [] := by
      rintro rfl
      simp at c2
      rcases c2 with ⟨_, c2⟩
      omega
    have hp : 0 < ns.length := List.length_pos_iff.mpr hn
    have p0 : (0 : Int) < ((ns.map D.int).length : Int) := by rw [List.length_map]; omega
    have p1 := ixN_pos (n := (ns.map D.int).length) (Int.emod_nonneg i (Int.ne_of_gt p0)) (Int.emod_lt_of_pos i p0)
    simp only [F_law_next, evDef, b_law_next, N_law_next, startE, evSs, evS, evE, evEs, immAt, setI, List.map_cons, List.map_nil, List.length_cons, List.length_nil, List.cons_append, List.nil_append, List.getElem?_cons_zero, List.getElem?_cons_succ, R.of_some, R.bind_ok, RS.of_ok, RS.seq_nx, RS.seq_ret,
      s_cget, s_cell0, s_cell1, s_bind, atI_0, atI_1, atI_2, s_mkL, s_ccat, s_int1, s_clen, s_map, s_max, s_mod, s_ix2, e0, e1, m0, decide_true, if_true, s_ge, s_pow18, s_truth, List.set, c1, s_mul, q1, q2, Bool.or_true, s_add1, s_fdiv, k1, k2, k3, k4, h2, Bool.and_true, hz, List.replicate, s_csetL, p0, p1, Nat.reduceAdd, Nat.reduceSub, R.of_none]
    refine Rs.ok ⟨z % cap, rfl, Int.emod_nonneg _ (by omega), Int.emod_lt_of_pos _ k4, ns.set (i % ((ns.map D.int).length : Int)).toNat (z / cap), a, i, by simpa using hl, hi, by rw [List.map_set]⟩
  · simp only [F_law_next, evDef, b_law_next, N_law_next, startE, evSs, evS, evE, evEs, immAt, setI, List.map_cons, List.map_nil, List.length_cons, List.length_nil, List.cons_append, List.nil_append, List.getElem?_cons_zero, List.getElem?_cons_succ, R.of_some, R.bind_ok, RS.of_ok, RS.seq_nx, RS.seq_ret,
      s_cget, s_cell0, s_cell1, s_bind, atI_0, atI_1, atI_2, s_mkL, s_ccat, s_int1, s_clen, s_map, s_max, s_mod, s_ix2, e0, e1, m0, decide_true, if_true, s_ge, s_pow18, s_truth, List.set, c1, s_mul, q1, q2, Bool.or_true, s_add1, s_fdiv, k1, k2, k3, k4, h2, Bool.and_true, hz, List.replicate, s_csetL, Nat.reduceAdd, Nat.reduceSub, R.of_none, decide_false, Bool.false_eq_true, if_false, i0, i2, List.set_cons_zero, List.set_cons_succ]
    exact Rs.ok ⟨_, rfl, Int.emod_nonneg _ (by omega), Int.emod_lt_of_pos _ k4, ns, _, i + 1, hl, by omega, rfl⟩

theorem BIGv : BIG = 16777216 := rfl
theorem mkT_of {xs : List D} {n : Nat} (h : xs.length = n) (hn : n ≤ 16777216) : mkTup xs = some (.tup xs) := if_pos (by rw [h, BIGv]; exact hn)
theorem mkL_of {xs : List D} {n : Nat} (h : xs.length = n) (hn : n ≤ 16777216) : mkLst xs = some (.lst xs) := if_pos (by rw [h, BIGv]; exact hn)
theorem mix_loop (seed : Int) (ms : List Int) (S : Sto) : ∀ (ns : List Int) (v : Int) (x : Slot), ∃ (v' : Int) (y : Slot), forS (fnL []) (.one 3) [.asg 2 (.bin .mod (.blt .int [.bin .add (.bin .add (.bin .mul (.var 2) (.lit (.int 48271))) (.bin .mod (.blt .int [.var 3]) (.lit (.int 2147483629)))) (.lit (.int 1))]) (.lit (.int 2147483647)))]
    (ns.map .int) [.imm (.scr ms), .imm (.int seed), .imm (.int v), x] S = .nx [.imm (.scr ms), .imm (.int seed), .imm (.int v'), y] S
  | [], v, x => ⟨v, x, rfl⟩
  | n :: ns, v, x => by
    have k1 : (0 : Int) < 2147483647 := by decide
    have k2 : (0 : Int) < 2147483629 := by decide
    have q1 : small 48271 = true := by decide
    obtain ⟨v', y, h⟩ := mix_loop seed ms S ns ((v * 48271 + n % 2147483629 + 1) % 2147483647) (.imm (.int n))
    refine ⟨v', y, ?_⟩
    rw [← h]
    simp only [evDef, startE, evSs, evEs, evO, evIf, evSrc, s_it1, s_it2, s_it3, e_lit, e_glob, e_var, e_pk, e_tup, e_lst, e_bin, e_star, e_neg, e_cmp, e_isN, e_chain, e_and, e_or, e_not, e_ite, e_idx, e_slice, e_fld, e_call, e_blt, e_isi, e_join, e_comp, e_dcomp, e_dic0, e_cidx, e_cell, e_cget, e_clen, e_ccat, v_asg, v_asgO, v_unp, v_par, v_setI, v_setK, v_aug, v_app, v_exp, v_ret, v_retO, v_retN, v_ite, v_for_, v_pass, v_never, v_frz, v_cset, immAt, pkAt, MP.setI, ownAt, lstOwn, dicOwn, MP.setO, List.map_cons, List.map_nil, List.length_cons, List.length_nil, List.cons_append, List.nil_append, List.getElem?_cons_zero, List.getElem?_cons_succ, R.of_some, R.of_none, R.bind_ok, RS.of_ok, RS.seq_nx, RS.seq_ret, nc0, nc1, nc2, nc3, nc4, nc5, nc6, nc7, nc8, nc9, s_bind, s_map, s_eqI, s_neI, s_eqS, s_neS, atI_0, atI_1, atI_2, atI_3, s_int1, s_int2, s_max, s_mod, s_ix1, s_ix2, s_len1, s_len2, s_list1, s_list2, s_list3, s_tup1, s_tup2, decide_true, decide_false, if_true, if_false, s_ge, s_lt, s_le, s_gt, s_truth, List.set_cons_zero, List.set_cons_succ, s_mul, Bool.or_true, s_add1, s_add3, s_add4, s_sub, s_fdiv, Bool.and_true, Bool.false_eq_true, List.replicate, Nat.reduceAdd, Nat.reduceSub, Int.reduceAdd, Int.reduceSub, Int.reduceMul, fnL, constF, newCell, R.bind_stuck, forS, forLoop, bindTg, k1, k2, q1]
theorem mix_ok {ns : List Int} {seed : Int} (h : ns.length ≤ 63) : Rs (F_law_mix [.scr ns, .int seed] []) fun d S => d = .ref 1 ∧ HS S := by
  obtain ⟨v', y, e⟩ := mix_loop seed ns [] ns seed .no
  simp only [evDef, startE, evSs, evEs, evO, evIf, evSrc, s_it1, s_it2, s_it3, e_lit, e_glob, e_var, e_pk, e_tup, e_lst, e_bin, e_star, e_neg, e_cmp, e_isN, e_chain, e_and, e_or, e_not, e_ite, e_idx, e_slice, e_fld, e_call, e_blt, e_isi, e_join, e_comp, e_dcomp, e_dic0, e_cidx, e_cell, e_cget, e_clen, e_ccat, v_asg, v_asgO, v_unp, v_par, v_setI, v_setK, v_aug, v_app, v_exp, v_ret, v_retO, v_retN, v_ite, v_for_, v_pass, v_never, v_frz, v_cset, immAt, pkAt, MP.setI, ownAt, lstOwn, dicOwn, MP.setO, List.map_cons, List.map_nil, List.length_cons, List.length_nil, List.cons_append, List.nil_append, List.getElem?_cons_zero, List.getElem?_cons_succ, R.of_some, R.of_none, R.bind_ok, RS.of_ok, RS.seq_nx, RS.seq_ret, nc0, nc1, nc2, nc3, nc4, nc5, nc6, nc7, nc8, nc9, s_bind, s_map, s_eqI, s_neI, s_eqS, s_neS, atI_0, atI_1, atI_2, atI_3, s_int1, s_int2, s_max, s_mod, s_ix1, s_ix2, s_len1, s_len2, s_list1, s_list2, s_list3, s_tup1, s_tup2, decide_true, decide_false, if_true, if_false, s_ge, s_lt, s_le, s_gt, s_truth, List.set_cons_zero, List.set_cons_succ, s_mul, Bool.or_true, s_add1, s_add3, s_add4, s_sub, s_fdiv, Bool.and_true, Bool.false_eq_true, List.replicate, Nat.reduceAdd, Nat.reduceSub, Int.reduceAdd, Int.reduceSub, Int.reduceMul, fnL, constF, newCell, R.bind_stuck, F_law_mix, b_law_mix, N_law_mix, e, mkL_of (xs := [.int v', .ref 0, .int 0]) (n := 3) rfl (by decide), mkL_of (xs := [.int 0]) (n := 1) rfl (by decide)]
  exact Rs.ok ⟨rfl, ns, v', 0, h, Int.le_refl _, rfl⟩
/-- a drawn item -/
theorem pick_ok {T S : Sto} {xs : List D} (h : (HSt T) S) (h1 : 1 ≤ xs.length) (h2 : xs.length < 1000) : Rs (F_law_pick [.ref 1, .lst xs] S) fun d S' => d ∈ xs ∧ (HSt T) S' := by
  obtain ⟨d, S', e, r, rfl, r0, r1, hs⟩ := next_ok (cap := xs.length) h (by omega) (by omega)
  obtain ⟨x, a1, a2⟩ := atI_pos (xs := xs) r0 r1
  simp only [evDef, startE, evSs, evEs, evO, evIf, evSrc, s_it1, s_it2, s_it3, e_lit, e_glob, e_var, e_pk, e_tup, e_lst, e_bin, e_star, e_neg, e_cmp, e_isN, e_chain, e_and, e_or, e_not, e_ite, e_idx, e_slice, e_fld, e_call, e_blt, e_isi, e_join, e_comp, e_dcomp, e_dic0, e_cidx, e_cell, e_cget, e_clen, e_ccat, v_asg, v_asgO, v_unp, v_par, v_setI, v_setK, v_aug, v_app, v_exp, v_ret, v_retO, v_retN, v_ite, v_for_, v_pass, v_never, v_frz, v_cset, immAt, pkAt, MP.setI, ownAt, lstOwn, dicOwn, MP.setO, List.map_cons, List.map_nil, List.length_cons, List.length_nil, List.cons_append, List.nil_append, List.getElem?_cons_zero, List.getElem?_cons_succ, R.of_some, R.of_none, R.bind_ok, RS.of_ok, RS.seq_nx, RS.seq_ret, nc0, nc1, nc2, nc3, nc4, nc5, nc6, nc7, nc8, nc9, s_bind, s_map, s_eqI, s_neI, s_eqS, s_neS, atI_0, atI_1, atI_2, atI_3, s_int1, s_int2, s_max, s_mod, s_ix1, s_ix2, s_len1, s_len2, s_list1, s_list2, s_list3, s_tup1, s_tup2, decide_true, decide_false, if_true, if_false, s_ge, s_lt, s_le, s_gt, s_truth, List.set_cons_zero, List.set_cons_succ, s_mul, Bool.or_true, s_add1, s_add3, s_add4, s_sub, s_fdiv, Bool.and_true, Bool.false_eq_true, List.replicate, Nat.reduceAdd, Nat.reduceSub, Int.reduceAdd, Int.reduceSub, Int.reduceMul, fnL, constF, newCell, R.bind_stuck, F_law_pick, b_law_pick, N_law_pick, e, a1]
  exact Rs.ok ⟨List.mem_of_getElem? a2, hs⟩

def IsCol (d : D) : Prop := d = .str "x" ∨ d = .str "y"
inductive IsW : D → Prop
  | int {i : Int} : -9 ≤ i → i ≤ 9 → IsW (.int i)
  | tup {w c s : Str} {b : Bool} : w = "sum" ∨ w = "count" → c = "x" ∨ c = "y" → s = "all" ∨ s = "same" ∨ s = "ahead" → IsW (.tup [.str w, .str c, .str s, .bl b])
theorem worth_ok {T S : Sto} (h : (HSt T) S) : Rs (F_law_worth [.ref 1] S) fun d S' => IsW d ∧ (HSt T) S' := by
  obtain ⟨_, S1, e1, r1, rfl, a1, b1, h1⟩ := next_ok (cap := 4) h (by decide) (by decide)
  by_cases hz : r1 = 0
  · subst hz
    obtain ⟨_, S2, e2, r2, rfl, a2, b2, h2⟩ := next_ok (cap := 7) h1 (by decide) (by decide)
    obtain ⟨x, t1, t2⟩ := atI_pos (xs := [D.int 0, .int 1, .int (-1), .int 2, .int 5, .int (-9), .int 0]) a2 (by simpa using b2)
    have hx := List.mem_of_getElem? t2
    simp only [evDef, startE, evSs, evEs, evO, evIf, evSrc, s_it1, s_it2, s_it3, e_lit, e_glob, e_var, e_pk, e_tup, e_lst, e_bin, e_star, e_neg, e_cmp, e_isN, e_chain, e_and, e_or, e_not, e_ite, e_idx, e_slice, e_fld, e_call, e_blt, e_isi, e_join, e_comp, e_dcomp, e_dic0, e_cidx, e_cell, e_cget, e_clen, e_ccat, v_asg, v_asgO, v_unp, v_par, v_setI, v_setK, v_aug, v_app, v_exp, v_ret, v_retO, v_retN, v_ite, v_for_, v_pass, v_never, v_frz, v_cset, immAt, pkAt, MP.setI, ownAt, lstOwn, dicOwn, MP.setO, List.map_cons, List.map_nil, List.length_cons, List.length_nil, List.cons_append, List.nil_append, List.getElem?_cons_zero, List.getElem?_cons_succ, R.of_some, R.of_none, R.bind_ok, RS.of_ok, RS.seq_nx, RS.seq_ret, nc0, nc1, nc2, nc3, nc4, nc5, nc6, nc7, nc8, nc9, s_bind, s_map, s_eqI, s_neI, s_eqS, s_neS, atI_0, atI_1, atI_2, atI_3, s_int1, s_int2, s_max, s_mod, s_ix1, s_ix2, s_len1, s_len2, s_list1, s_list2, s_list3, s_tup1, s_tup2, decide_true, decide_false, if_true, if_false, s_ge, s_lt, s_le, s_gt, s_truth, List.set_cons_zero, List.set_cons_succ, s_mul, Bool.or_true, s_add1, s_add3, s_add4, s_sub, s_fdiv, Bool.and_true, Bool.false_eq_true, List.replicate, Nat.reduceAdd, Nat.reduceSub, Int.reduceAdd, Int.reduceSub, Int.reduceMul, fnL, constF, newCell, R.bind_stuck, F_law_worth, b_law_worth, N_law_worth, e1, e2, t1, mkL_of (xs := [D.int 0, .int 1, .int (-1), .int 2, .int 5, .int (-9), .int 0]) (n := 7) rfl (by decide)]
    refine Rs.ok ⟨?_, h2⟩
    simp at hx
    rcases hx with rfl | rfl | rfl | rfl | rfl | rfl | rfl <;> exact .int (by decide) (by decide)
  · obtain ⟨_, S2, e2, r2, rfl, a2, b2, h2⟩ := next_ok (cap := 3) h1 (by decide) (by decide)
    obtain ⟨_, S3, e3, r3, rfl, a3, b3, h3⟩ := next_ok (cap := 3) h2 (by decide) (by decide)
    obtain ⟨w, t1, t2⟩ := atI_pos (xs := [D.str "sum", .str "sum", .str "count"]) a2 (by simpa using b2)
    obtain ⟨c, t3, t4⟩ := atI_pos (xs := [D.str "all", .str "same", .str "ahead"]) a3 (by simpa using b3)
    obtain ⟨p, S4, e4, hp, h4⟩ := pick_ok (xs := [D.str "x", .str "y"]) h3 (by decide) (by decide)
    obtain ⟨_, S5, e5, r5, rfl, a5, b5, h5⟩ := next_ok (cap := 3) h4 (by decide) (by decide)
    have hx := List.mem_of_getElem? t2
    have hy := List.mem_of_getElem? t4
    simp only [evDef, startE, evSs, evEs, evO, evIf, evSrc, s_it1, s_it2, s_it3, e_lit, e_glob, e_var, e_pk, e_tup, e_lst, e_bin, e_star, e_neg, e_cmp, e_isN, e_chain, e_and, e_or, e_not, e_ite, e_idx, e_slice, e_fld, e_call, e_blt, e_isi, e_join, e_comp, e_dcomp, e_dic0, e_cidx, e_cell, e_cget, e_clen, e_ccat, v_asg, v_asgO, v_unp, v_par, v_setI, v_setK, v_aug, v_app, v_exp, v_ret, v_retO, v_retN, v_ite, v_for_, v_pass, v_never, v_frz, v_cset, immAt, pkAt, MP.setI, ownAt, lstOwn, dicOwn, MP.setO, List.map_cons, List.map_nil, List.length_cons, List.length_nil, List.cons_append, List.nil_append, List.getElem?_cons_zero, List.getElem?_cons_succ, R.of_some, R.of_none, R.bind_ok, RS.of_ok, RS.seq_nx, RS.seq_ret, nc0, nc1, nc2, nc3, nc4, nc5, nc6, nc7, nc8, nc9, s_bind, s_map, s_eqI, s_neI, s_eqS, s_neS, atI_0, atI_1, atI_2, atI_3, s_int1, s_int2, s_max, s_mod, s_ix1, s_ix2, s_len1, s_len2, s_list1, s_list2, s_list3, s_tup1, s_tup2, decide_true, decide_false, if_true, if_false, s_ge, s_lt, s_le, s_gt, s_truth, List.set_cons_zero, List.set_cons_succ, s_mul, Bool.or_true, s_add1, s_add3, s_add4, s_sub, s_fdiv, Bool.and_true, Bool.false_eq_true, List.replicate, Nat.reduceAdd, Nat.reduceSub, Int.reduceAdd, Int.reduceSub, Int.reduceMul, fnL, constF, newCell, R.bind_stuck, F_law_worth, b_law_worth, N_law_worth, e1, e2, e3, e4, e5, t1, t3, hz, mkL_of (xs := [D.str "sum", .str "sum", .str "count"]) (n := 3) rfl (by decide), mkL_of (xs := [D.str "all", .str "same", .str "ahead"]) (n := 3) rfl (by decide), mkL_of (xs := [D.str "x", .str "y"]) (n := 2) rfl (by decide), MP.setPar, Bool.false_and,
      mkT_of (xs := [w, p, c, .bl (decide (r5 = 0))]) (n := 4) rfl (by decide)]
    refine Rs.ok ⟨?_, h5⟩
    simp at hx hy hp
    rcases hx with rfl | rfl <;> rcases hy with rfl | rfl | rfl <;> rcases hp with rfl | rfl <;> exact .tup (by simp) (by simp) (by simp)

inductive IsSt : D → Prop
  | add {c e : Str} : c = "x" ∨ c = "y" → e = "x" ∨ e = "y" → IsSt (.tup [.str "add", .str c, .str e])
  | put {w c : Str} {v : D} : w = "fill" ∨ w = "less" ∨ w = "put" ∨ w = "times" → c = "x" ∨ c = "y" → IsW v → IsSt (.tup [.str w, .str c, v])
def isT : D → Bool
  | .tup (.str w :: _) => decide (w = "times")
  | _ => false
def gT (d : D) : Option D := if isT d then some d else none
theorem IsW.plain {d : D} (h : IsW d) (n : Nat) : d.plain (n + 1) = true := by cases h <;> simp [D.plain, D.plains]
theorem IsSt.plain {d : D} (h : IsSt d) (n : Nat) : d.plain (n + 2) = true := by
  cases h with
  | add a b => simp [D.plain, D.plains]
  | put a b c => simp [D.plain, D.plains, c.plain n]
theorem plains_of {n : Nat} : ∀ {xs : List D}, (∀ d ∈ xs, d.plain n = true) → D.plains n xs = true
  | [], _ => by simp [D.plains]
  | x :: xs, h => by simp [D.plains, h x List.mem_cons_self, plains_of fun d hd => h d (List.mem_cons_of_mem x hd)]
theorem ne_nil {xs : List D} (h : D.plains 63 xs = true) : dCmp .ne (.lst xs) (.lst []) = some (!xs.isEmpty) := by
  have e : (D.lst xs).eqv (.lst []) = xs.isEmpty := by cases xs <;> simp [D.eqv, D.eqvs]
  unfold dCmp
  simp only [D.plain, D.plains, h, e, Bool.and_self, if_true]
structure StepsOk (xs : List D) : Prop where
  all : ∀ d ∈ xs, IsSt d
  one : (xs.filterMap gT).length ≤ 1
theorem StepsOk.snoc {xs : List D} {d : D} (h : StepsOk xs) (hd : IsSt d) (ht : isT d = true → xs.filterMap gT = []) : StepsOk (xs ++ [d]) where
  all := fun e he => by
    rcases List.mem_append.mp he with he | he
    · exact h.all e he
    · rw [List.mem_singleton.mp he]; exact hd
  one := by
    rw [List.filterMap_append]
    by_cases q : isT d = true
    · simp [ht q, gT, q]
    · simp [gT, q]; exact h.one
theorem times_comp {xs : List D} {a b c : Slot} {k w v : Slot} {fn : Nat → FS} {s : Sto} (h : ∀ d ∈ xs, IsSt d) : compS fn [6] (.one 6) (some (.cmp .eq (.idx (.var 6) (.lit (.int 0))) (.lit (.str "times")))) (.var 6) [a, b, c, k, w, v, .no] xs s = .ok (xs.filterMap gT) s := by
  refine compS_run gT fun d hd => ?_
  refine ⟨[a, b, c, k, w, v, .imm d], rfl, isT d, ?_, ?_⟩
  · cases h d hd with
    | add p q => simp only [evDef, startE, evSs, evEs, evO, evIf, evSrc, s_it1, s_it2, s_it3, e_lit, e_glob, e_var, e_pk, e_tup, e_lst, e_bin, e_star, e_neg, e_cmp, e_isN, e_chain, e_and, e_or, e_not, e_ite, e_idx, e_slice, e_fld, e_call, e_blt, e_isi, e_join, e_comp, e_dcomp, e_dic0, e_cidx, e_cell, e_cget, e_clen, e_ccat, v_asg, v_asgO, v_unp, v_par, v_setI, v_setK, v_aug, v_app, v_exp, v_ret, v_retO, v_retN, v_ite, v_for_, v_pass, v_never, v_frz, v_cset, immAt, pkAt, MP.setI, ownAt, lstOwn, dicOwn, MP.setO, List.map_cons, List.map_nil, List.length_cons, List.length_nil, List.cons_append, List.nil_append, List.getElem?_cons_zero, List.getElem?_cons_succ, R.of_some, R.of_none, R.bind_ok, RS.of_ok, RS.seq_nx, RS.seq_ret, nc0, nc1, nc2, nc3, nc4, nc5, nc6, nc7, nc8, nc9, s_bind, s_map, s_eqI, s_neI, s_eqS, s_neS, atI_0, atI_1, atI_2, atI_3, s_int1, s_int2, s_max, s_mod, s_ix1, s_ix2, s_len1, s_len2, s_list1, s_list2, s_list3, s_tup1, s_tup2, decide_true, decide_false, if_true, if_false, s_ge, s_lt, s_le, s_gt, s_truth, List.set_cons_zero, List.set_cons_succ, s_mul, Bool.or_true, s_add1, s_add3, s_add4, s_sub, s_fdiv, Bool.and_true, Bool.false_eq_true, List.replicate, Nat.reduceAdd, Nat.reduceSub, Int.reduceAdd, Int.reduceSub, Int.reduceMul, fnL, constF, newCell, R.bind_stuck, isT]
    | put p q r => simp only [evDef, startE, evSs, evEs, evO, evIf, evSrc, s_it1, s_it2, s_it3, e_lit, e_glob, e_var, e_pk, e_tup, e_lst, e_bin, e_star, e_neg, e_cmp, e_isN, e_chain, e_and, e_or, e_not, e_ite, e_idx, e_slice, e_fld, e_call, e_blt, e_isi, e_join, e_comp, e_dcomp, e_dic0, e_cidx, e_cell, e_cget, e_clen, e_ccat, v_asg, v_asgO, v_unp, v_par, v_setI, v_setK, v_aug, v_app, v_exp, v_ret, v_retO, v_retN, v_ite, v_for_, v_pass, v_never, v_frz, v_cset, immAt, pkAt, MP.setI, ownAt, lstOwn, dicOwn, MP.setO, List.map_cons, List.map_nil, List.length_cons, List.length_nil, List.cons_append, List.nil_append, List.getElem?_cons_zero, List.getElem?_cons_succ, R.of_some, R.of_none, R.bind_ok, RS.of_ok, RS.seq_nx, RS.seq_ret, nc0, nc1, nc2, nc3, nc4, nc5, nc6, nc7, nc8, nc9, s_bind, s_map, s_eqI, s_neI, s_eqS, s_neS, atI_0, atI_1, atI_2, atI_3, s_int1, s_int2, s_max, s_mod, s_ix1, s_ix2, s_len1, s_len2, s_list1, s_list2, s_list3, s_tup1, s_tup2, decide_true, decide_false, if_true, if_false, s_ge, s_lt, s_le, s_gt, s_truth, List.set_cons_zero, List.set_cons_succ, s_mul, Bool.or_true, s_add1, s_add3, s_add4, s_sub, s_fdiv, Bool.and_true, Bool.false_eq_true, List.replicate, Nat.reduceAdd, Nat.reduceSub, Int.reduceAdd, Int.reduceSub, Int.reduceMul, fnL, constF, newCell, R.bind_stuck, isT]
  · cases hh : isT d with
    | true => exact ⟨d, rfl, by simp [gT, hh]⟩
    | false => simp [gT, hh]
theorem steps_okM {T S : Sto} {mo : Int} (g0 : 0 ≤ mo) (g5 : mo ≤ 5) (h : (HSt T) S) : Rs (F_law_steps [.ref 1, .int mo] S) fun d S' => (∃ xs, d = .lst xs ∧ StepsOk xs ∧ xs.length ≤ 5) ∧ (HSt T) S' := by
  obtain ⟨_, S1, e1, r, rfl, a1, b1, h1⟩ := next_ok (cap := mo + 1) h (by omega) (by omega)
  refine def_run ?_
  have er : dRng [.int r] = some (rngItems 0 r.toNat) := by
    have q : (decide (-(2 ^ 62) ≤ r) && decide (r ≤ BIG)) = true := by rw [BIGv]; simp; omega
    exact if_pos q
  simp only [evDef, startE, evSs, evEs, evO, evIf, evSrc, s_it1, s_it2, s_it3, e_lit, e_glob, e_var, e_pk, e_tup, e_lst, e_bin, e_star, e_neg, e_cmp, e_isN, e_chain, e_and, e_or, e_not, e_ite, e_idx, e_slice, e_fld, e_call, e_blt, e_isi, e_join, e_comp, e_dcomp, e_dic0, e_cidx, e_cell, e_cget, e_clen, e_ccat, v_asg, v_asgO, v_unp, v_par, v_setI, v_setK, v_aug, v_app, v_exp, v_ret, v_retO, v_retN, v_ite, v_for_, v_pass, v_never, v_frz, v_cset, immAt, pkAt, MP.setI, ownAt, lstOwn, dicOwn, MP.setO, List.map_cons, List.map_nil, List.length_cons, List.length_nil, List.cons_append, List.nil_append, List.getElem?_cons_zero, List.getElem?_cons_succ, R.of_some, R.of_none, R.bind_ok, RS.of_ok, RS.seq_nx, RS.seq_ret, nc0, nc1, nc2, nc3, nc4, nc5, nc6, nc7, nc8, nc9, s_bind, s_map, s_eqI, s_neI, s_eqS, s_neS, atI_0, atI_1, atI_2, atI_3, s_int1, s_int2, s_max, s_mod, s_ix1, s_ix2, s_len1, s_len2, s_list1, s_list2, s_list3, s_tup1, s_tup2, decide_true, decide_false, if_true, if_false, s_ge, s_lt, s_le, s_gt, s_truth, List.set_cons_zero, List.set_cons_succ, s_mul, Bool.or_true, s_add1, s_add3, s_add4, s_sub, s_fdiv, Bool.and_true, Bool.false_eq_true, List.replicate, Nat.reduceAdd, Nat.reduceSub, Int.reduceAdd, Int.reduceSub, Int.reduceMul, fnL, constF, newCell, R.bind_stuck, b_law_steps, N_law_steps, mkL_of (xs := []) (n := 0) rfl (by decide), isFr, e1, er]
  refine Rt.seq (M := fun ρ s => ∃ xs k w v, ρ = [.imm (.ref 1), .imm (.int mo), .own (.lst xs), k, w, v, .no] ∧ StepsOk xs ∧ xs.length ≤ 5 ∧ (HSt T) s) ?_ ?_
  · refine Rt.imp (forS_run (fun ds ρ s => ∃ xs k w v, ρ = [.imm (.ref 1), .imm (.int mo), .own (.lst xs), k, w, v, .no] ∧ StepsOk xs ∧ xs.length + ds.length ≤ 5 ∧ (HSt T) s) ?_ ⟨[], _, _, _, rfl, ⟨by simp, by simp⟩, ?_, h1⟩) (fun ρ s ⟨xs, k, w, v, e, a, b, c⟩ => ⟨xs, k, w, v, e, a, by simpa using b, c⟩) fun _ _ h => h
    · rintro d ds _ s ⟨xs, k, w, v, rfl, hx, hl, hs⟩
      refine ⟨_, rfl, ?_⟩
      simp only [List.length_cons] at hl
      obtain ⟨wd, S2, e2, hw, h2⟩ := pick_ok (xs := [D.str "fill", .str "less", .str "put", .str "add", .str "fill", .str "times"]) hs (by decide) (by decide)
      obtain ⟨c1, S3, e3, hc1, h3⟩ := pick_ok (xs := [D.str "x", .str "y"]) h2 (by decide) (by decide)
      obtain ⟨c2, S4, e4, hc2, h4⟩ := pick_ok (xs := [D.str "x", .str "y"]) h3 (by decide) (by decide)
      obtain ⟨wt, S5, e5, hwt, h5⟩ := worth_ok h3
      have hp := ne_nil (xs := xs.filterMap gT) (plains_of fun d hd => by
        obtain ⟨a, ha, hb⟩ := List.mem_filterMap.mp hd
        unfold gT at hb
        split at hb
        · cases hb; exact (hx.all _ ha).plain 61
        · cases hb)
      have hB : xs.length < BIG := by rw [BIGv]; omega
      have hcmp := times_comp (fn := fnL [F_law_next, F_law_pick, F_law_worth]) (a := .imm (.ref 1)) (b := .imm (.int mo)) (c := .own (.lst xs)) (k := .imm d) (w := .imm (.lst [D.str "fill", .str "less", .str "put", .str "add", .str "fill", .str "times"])) (v := .imm wd) (s := S2) hx.all
      have hL0 := mkL_of (xs := []) (n := 0) rfl (by decide)
      have hL2 := mkL_of (xs := [D.str "x", .str "y"]) (n := 2) rfl (by decide)
      have hL6 := mkL_of (xs := [D.str "fill", .str "less", .str "put", .str "add", .str "fill", .str "times"]) (n := 6) rfl (by decide)
      have hT1 : ∀ x y z : D, mkTup [x, y, z] = some (.tup [x, y, z]) := fun x y z => mkT_of (n := 3) rfl (by decide)
      have ha : ∀ x, dApp xs x = some (.lst (xs ++ [x])) := fun x => if_pos hB
      have fin : ∀ (t : D) (k w v : Slot) (s' : Sto), IsSt t → (isT t = true → xs.filterMap gT = []) → (HSt T) s' → Rt (RS.nx [.imm (.ref 1), .imm (.int mo), .own (.lst (xs ++ [t])), k, w, v, .no] s') (fun ρ s => ∃ xs k w v, ρ = [.imm (.ref 1), .imm (.int mo), .own (.lst xs), k, w, v, .no] ∧ StepsOk xs ∧ xs.length + ds.length ≤ 5 ∧ (HSt T) s) (fun d S' => (∃ xs, d = .lst xs ∧ StepsOk xs ∧ xs.length ≤ 5) ∧ (HSt T) S') :=
        fun t k w v s' q1 q2 q3 => Rt.nx ⟨xs ++ [t], k, w, v, rfl, hx.snoc q1 q2, by rw [List.length_append]; simp; omega, q3⟩
      simp at hw hc1 hc2
      rcases hw with rfl | rfl | rfl | rfl | rfl | rfl
      all_goals simp only [evDef, startE, evSs, evEs, evO, evIf, evSrc, s_it1, s_it2, s_it3, e_lit, e_glob, e_var, e_pk, e_tup, e_lst, e_bin, e_star, e_neg, e_cmp, e_isN, e_chain, e_and, e_or, e_not, e_ite, e_idx, e_slice, e_fld, e_call, e_blt, e_isi, e_join, e_comp, e_dcomp, e_dic0, e_cidx, e_cell, e_cget, e_clen, e_ccat, v_asg, v_asgO, v_unp, v_par, v_setI, v_setK, v_aug, v_app, v_exp, v_ret, v_retO, v_retN, v_ite, v_for_, v_pass, v_never, v_frz, v_cset, immAt, pkAt, MP.setI, ownAt, lstOwn, dicOwn, MP.setO, List.map_cons, List.map_nil, List.length_cons, List.length_nil, List.cons_append, List.nil_append, List.getElem?_cons_zero, List.getElem?_cons_succ, R.of_some, R.of_none, R.bind_ok, RS.of_ok, RS.seq_nx, RS.seq_ret, nc0, nc1, nc2, nc3, nc4, nc5, nc6, nc7, nc8, nc9, s_bind, s_map, s_eqI, s_neI, s_eqS, s_neS, atI_0, atI_1, atI_2, atI_3, s_int1, s_int2, s_max, s_mod, s_ix1, s_ix2, s_len1, s_len2, s_list1, s_list2, s_list3, s_tup1, s_tup2, decide_true, decide_false, if_true, if_false, s_ge, s_lt, s_le, s_gt, s_truth, List.set_cons_zero, List.set_cons_succ, s_mul, Bool.or_true, s_add1, s_add3, s_add4, s_sub, s_fdiv, Bool.and_true, Bool.false_eq_true, List.replicate, Nat.reduceAdd, Nat.reduceSub, Int.reduceAdd, Int.reduceSub, Int.reduceMul, fnL, constF, newCell, R.bind_stuck, hL6, e2, hL0, hL2, e3, e4, e5, hT1, ha, hcmp, hp, (by decide : ¬ ("fill" : Str) = "times"), (by decide : ¬ ("less" : Str) = "times"), (by decide : ¬ ("put" : Str) = "times"), (by decide : ¬ ("add" : Str) = "times"), (by decide : ¬ ("fill" : Str) = "add"), (by decide : ¬ ("less" : Str) = "add"), (by decide : ¬ ("put" : Str) = "add"), (by decide : ¬ ("times" : Str) = "add")]
      · rcases hc1 with rfl | rfl <;> exact fin _ _ _ _ _ (.put (by simp) (by simp) hwt) (fun q => by cases q) h5
      · rcases hc1 with rfl | rfl <;> exact fin _ _ _ _ _ (.put (by simp) (by simp) hwt) (fun q => by cases q) h5
      · rcases hc1 with rfl | rfl <;> exact fin _ _ _ _ _ (.put (by simp) (by simp) hwt) (fun q => by cases q) h5
      · rcases hc1 with rfl | rfl <;> rcases hc2 with rfl | rfl <;> exact fin _ _ _ _ _ (.add (by simp) (by simp)) (fun q => by cases q) h4
      · rcases hc1 with rfl | rfl <;> exact fin _ _ _ _ _ (.put (by simp) (by simp) hwt) (fun q => by cases q) h5
      · cases hf : xs.filterMap gT with
        | nil =>
          simp only [evDef, startE, evSs, evEs, evO, evIf, evSrc, s_it1, s_it2, s_it3, e_lit, e_glob, e_var, e_pk, e_tup, e_lst, e_bin, e_star, e_neg, e_cmp, e_isN, e_chain, e_and, e_or, e_not, e_ite, e_idx, e_slice, e_fld, e_call, e_blt, e_isi, e_join, e_comp, e_dcomp, e_dic0, e_cidx, e_cell, e_cget, e_clen, e_ccat, v_asg, v_asgO, v_unp, v_par, v_setI, v_setK, v_aug, v_app, v_exp, v_ret, v_retO, v_retN, v_ite, v_for_, v_pass, v_never, v_frz, v_cset, immAt, pkAt, MP.setI, ownAt, lstOwn, dicOwn, MP.setO, List.map_cons, List.map_nil, List.length_cons, List.length_nil, List.cons_append, List.nil_append, List.getElem?_cons_zero, List.getElem?_cons_succ, R.of_some, R.of_none, R.bind_ok, RS.of_ok, RS.seq_nx, RS.seq_ret, nc0, nc1, nc2, nc3, nc4, nc5, nc6, nc7, nc8, nc9, s_bind, s_map, s_eqI, s_neI, s_eqS, s_neS, atI_0, atI_1, atI_2, atI_3, s_int1, s_int2, s_max, s_mod, s_ix1, s_ix2, s_len1, s_len2, s_list1, s_list2, s_list3, s_tup1, s_tup2, decide_true, decide_false, if_true, if_false, s_ge, s_lt, s_le, s_gt, s_truth, List.set_cons_zero, List.set_cons_succ, s_mul, Bool.or_true, s_add1, s_add3, s_add4, s_sub, s_fdiv, Bool.and_true, Bool.false_eq_true, List.replicate, Nat.reduceAdd, Nat.reduceSub, Int.reduceAdd, Int.reduceSub, Int.reduceMul, fnL, constF, newCell, R.bind_stuck, List.isEmpty_nil, Bool.not_true, hL2, e3, e5, hT1, ha, (by decide : ¬ ("times" : Str) = "add")]
          rcases hc1 with rfl | rfl <;> exact fin _ _ _ _ _ (.put (by simp) (by simp) hwt) (fun q => hf) h5
        | cons z zs =>
          simp only [evDef, startE, evSs, evEs, evO, evIf, evSrc, s_it1, s_it2, s_it3, e_lit, e_glob, e_var, e_pk, e_tup, e_lst, e_bin, e_star, e_neg, e_cmp, e_isN, e_chain, e_and, e_or, e_not, e_ite, e_idx, e_slice, e_fld, e_call, e_blt, e_isi, e_join, e_comp, e_dcomp, e_dic0, e_cidx, e_cell, e_cget, e_clen, e_ccat, v_asg, v_asgO, v_unp, v_par, v_setI, v_setK, v_aug, v_app, v_exp, v_ret, v_retO, v_retN, v_ite, v_for_, v_pass, v_never, v_frz, v_cset, immAt, pkAt, MP.setI, ownAt, lstOwn, dicOwn, MP.setO, List.map_cons, List.map_nil, List.length_cons, List.length_nil, List.cons_append, List.nil_append, List.getElem?_cons_zero, List.getElem?_cons_succ, R.of_some, R.of_none, R.bind_ok, RS.of_ok, RS.seq_nx, RS.seq_ret, nc0, nc1, nc2, nc3, nc4, nc5, nc6, nc7, nc8, nc9, s_bind, s_map, s_eqI, s_neI, s_eqS, s_neS, atI_0, atI_1, atI_2, atI_3, s_int1, s_int2, s_max, s_mod, s_ix1, s_ix2, s_len1, s_len2, s_list1, s_list2, s_list3, s_tup1, s_tup2, decide_true, decide_false, if_true, if_false, s_ge, s_lt, s_le, s_gt, s_truth, List.set_cons_zero, List.set_cons_succ, s_mul, Bool.or_true, s_add1, s_add3, s_add4, s_sub, s_fdiv, Bool.and_true, Bool.false_eq_true, List.replicate, Nat.reduceAdd, Nat.reduceSub, Int.reduceAdd, Int.reduceSub, Int.reduceMul, fnL, constF, newCell, R.bind_stuck, List.isEmpty_cons, Bool.not_false, hL2, e3, e5, hT1, ha, (by decide : ¬ ("less" : Str) = "add")]
          rcases hc1 with rfl | rfl <;> exact fin _ _ _ _ _ (.put (by simp) (by simp) hwt) (fun q => by cases q) h5
    · simp [rngItems]; omega
  · rintro ρ s ⟨xs, k, w, v, rfl, hx, hl, hs⟩
    simp only [evDef, startE, evSs, evEs, evO, evIf, evSrc, s_it1, s_it2, s_it3, e_lit, e_glob, e_var, e_pk, e_tup, e_lst, e_bin, e_star, e_neg, e_cmp, e_isN, e_chain, e_and, e_or, e_not, e_ite, e_idx, e_slice, e_fld, e_call, e_blt, e_isi, e_join, e_comp, e_dcomp, e_dic0, e_cidx, e_cell, e_cget, e_clen, e_ccat, v_asg, v_asgO, v_unp, v_par, v_setI, v_setK, v_aug, v_app, v_exp, v_ret, v_retO, v_retN, v_ite, v_for_, v_pass, v_never, v_frz, v_cset, immAt, pkAt, MP.setI, ownAt, lstOwn, dicOwn, MP.setO, List.map_cons, List.map_nil, List.length_cons, List.length_nil, List.cons_append, List.nil_append, List.getElem?_cons_zero, List.getElem?_cons_succ, R.of_some, R.of_none, R.bind_ok, RS.of_ok, RS.seq_nx, RS.seq_ret, nc0, nc1, nc2, nc3, nc4, nc5, nc6, nc7, nc8, nc9, s_bind, s_map, s_eqI, s_neI, s_eqS, s_neS, atI_0, atI_1, atI_2, atI_3, s_int1, s_int2, s_max, s_mod, s_ix1, s_ix2, s_len1, s_len2, s_list1, s_list2, s_list3, s_tup1, s_tup2, decide_true, decide_false, if_true, if_false, s_ge, s_lt, s_le, s_gt, s_truth, List.set_cons_zero, List.set_cons_succ, s_mul, Bool.or_true, s_add1, s_add3, s_add4, s_sub, s_fdiv, Bool.and_true, Bool.false_eq_true, List.replicate, Nat.reduceAdd, Nat.reduceSub, Int.reduceAdd, Int.reduceSub, Int.reduceMul, fnL, constF, newCell, R.bind_stuck]
    exact Rt.ret ⟨⟨xs, rfl, hx, hl⟩, hs⟩

/-- a comprehension without tests whose items draw -/
theorem steps_ok {T S : Sto} (h : (HSt T) S) : Rs (F_law_steps [.ref 1, .int 5] S) fun d S' => (∃ xs, d = .lst xs ∧ StepsOk xs ∧ xs.length ≤ 5) ∧ (HSt T) S' := steps_okM (by decide) (by decide) h
theorem compS_any {fn : Nat → FS} {own : List Nat} {tg : Tg} {elt : E} {ρ : Env'} (I : Sto → Prop) (P : D → Prop) : ∀ {ds : List D} {s : Sto}, (∀ d ∈ ds, ∃ ρ', bindTg (wipeE ρ own) tg d = some ρ' ∧ ∀ s, I s → Rs (evE fn ρ' elt s) fun e s' => P e ∧ I s') → I s → Rs (compS fn own tg none elt ρ ds s) fun es s' => es.length = ds.length ∧ (∀ e ∈ es, P e) ∧ I s'
  | [], s, _, h => ⟨[], s, rfl, rfl, by simp, h⟩
  | d :: ds, s, h, hs => by
    obtain ⟨ρ', e, q⟩ := h d List.mem_cons_self
    obtain ⟨x, s1, e1, p1, i1⟩ := q s hs
    obtain ⟨es, s2, e2, l2, p2, i2⟩ := compS_any I P (ρ := ρ) (ds := ds) (fun x hx => h x (List.mem_cons_of_mem d hx)) i1
    refine ⟨x :: es, s2, ?_, by simp [l2], fun y hy => ?_, i2⟩
    · unfold compS at e2 ⊢
      simp only [evIf, R.bind_ok, if_true] at e2
      simp only [compLoop, e, R.of_some, R.bind_ok, evIf, if_true, e1, R.nox_ok, e2]
    · rcases List.mem_cons.mp hy with rfl | hy
      · exact p1
      · exact p2 y hy
def IsE (d : D) : Prop := d = .non ∨ ∃ i, d = .int i ∧ -20 ≤ i ∧ i ≤ 20
def IsHeld (x : Str) : Prop := x = "a" ∨ x = "b" ∨ x = "c" ∨ x = "ab" ∨ x = "ac" ∨ x = "bc"
def IsCols (x : Str) : Prop := x = "x" ∨ x = "y" ∨ x = "xy"
def IsMk (x : Str) : Prop := x = "a" ∨ x = "b" ∨ x = "c"
theorem entry_ok {T S : Sto} (h : (HSt T) S) : Rs (F_law_entry [.ref 1] S) fun d S' => IsE d ∧ (HSt T) S' := by
  obtain ⟨_, S1, e1, r, rfl, a1, b1, h1⟩ := next_ok (cap := 9) h (by decide) (by decide)
  obtain ⟨x, t1, t2⟩ := atI_pos (xs := [D.non, .int 0, .int 1, .int (-2), .int 3, .int 7, .non, .int 20, .int (-5)]) a1 (by simpa using b1)
  have hx := List.mem_of_getElem? t2
  simp only [evDef, startE, evSs, evEs, evO, evIf, evSrc, s_it1, s_it2, s_it3, e_lit, e_glob, e_var, e_pk, e_tup, e_lst, e_bin, e_star, e_neg, e_cmp, e_isN, e_chain, e_and, e_or, e_not, e_ite, e_idx, e_slice, e_fld, e_call, e_blt, e_isi, e_join, e_comp, e_dcomp, e_dic0, e_cidx, e_cell, e_cget, e_clen, e_ccat, v_asg, v_asgO, v_unp, v_par, v_setI, v_setK, v_aug, v_app, v_exp, v_ret, v_retO, v_retN, v_ite, v_for_, v_pass, v_never, v_frz, v_cset, immAt, pkAt, MP.setI, ownAt, lstOwn, dicOwn, MP.setO, List.map_cons, List.map_nil, List.length_cons, List.length_nil, List.cons_append, List.nil_append, List.getElem?_cons_zero, List.getElem?_cons_succ, R.of_some, R.of_none, R.bind_ok, RS.of_ok, RS.seq_nx, RS.seq_ret, nc0, nc1, nc2, nc3, nc4, nc5, nc6, nc7, nc8, nc9, s_bind, s_map, s_eqI, s_neI, s_eqS, s_neS, atI_0, atI_1, atI_2, atI_3, s_int1, s_int2, s_max, s_mod, s_ix1, s_ix2, s_len1, s_len2, s_list1, s_list2, s_list3, s_tup1, s_tup2, decide_true, decide_false, if_true, if_false, s_ge, s_lt, s_le, s_gt, s_truth, List.set_cons_zero, List.set_cons_succ, s_mul, Bool.or_true, s_add1, s_add3, s_add4, s_sub, s_fdiv, Bool.and_true, Bool.false_eq_true, List.replicate, Nat.reduceAdd, Nat.reduceSub, Int.reduceAdd, Int.reduceSub, Int.reduceMul, fnL, constF, newCell, R.bind_stuck, F_law_entry, b_law_entry, N_law_entry, mkL_of (xs := [D.non, .int 0, .int 1, .int (-2), .int 3, .int 7, .non, .int 20, .int (-5)]) (n := 9) rfl (by decide), e1, t1]
  refine Rs.ok ⟨?_, h1⟩
  simp at hx
  rcases hx with rfl | rfl | rfl | rfl | rfl | rfl | rfl | rfl | rfl <;> first | exact .inl rfl | exact .inr ⟨_, rfl, by decide, by decide⟩
inductive IsRow : D → Prop
  | mk {m : Str} {x y : D} : IsMk m → IsE x → IsE y → IsRow (.tup [.str m, x, y])
theorem table_ok {T S : Sto} {n : Int} (h : (HSt T) S) (h0 : 0 ≤ n) (h9 : n ≤ 9) : Rs (F_law_table [.ref 1, .int n] S) fun d S' => (∃ rs, d = .lst rs ∧ (∀ r ∈ rs, IsRow r) ∧ rs.length ≤ 9) ∧ (HSt T) S' := by
  obtain ⟨_, S1, e1, r, rfl, a1, b1, h1⟩ := next_ok (cap := n + 1) h (by omega) (by omega)
  have er : dRng [.int r] = some (rngItems 0 r.toNat) := by
    have q : (decide (-(2 ^ 62) ≤ r) && decide (r ≤ BIG)) = true := by rw [BIGv]; simp; omega
    exact if_pos q
  obtain ⟨es, S2, e2, l2, p2, h2⟩ := compS_any (fn := fnL [F_law_next, F_law_pick, F_law_entry]) (own := [2]) (tg := .one 2) (elt := .tup [.call 1 [.var 0, .lst [.lit (.str "a"), .lit (.str "b"), .lit (.str "c")]], .call 2 [.var 0], .call 2 [.var 0]]) (ρ := [.imm (.ref 1), .imm (.int n), .no]) (HSt T) IsRow (ds := rngItems 0 r.toNat) (s := S1) (fun d hd => ⟨_, rfl, fun s hs => by
    obtain ⟨m, s1, q1, hm, hs1⟩ := pick_ok (xs := [D.str "a", .str "b", .str "c"]) hs (by decide) (by decide)
    obtain ⟨x, s2, q2, hx, hs2⟩ := entry_ok hs1
    obtain ⟨y, s3, q3, hy, hs3⟩ := entry_ok hs2
    simp only [evDef, startE, evSs, evEs, evO, evIf, evSrc, s_it1, s_it2, s_it3, e_lit, e_glob, e_var, e_pk, e_tup, e_lst, e_bin, e_star, e_neg, e_cmp, e_isN, e_chain, e_and, e_or, e_not, e_ite, e_idx, e_slice, e_fld, e_call, e_blt, e_isi, e_join, e_comp, e_dcomp, e_dic0, e_cidx, e_cell, e_cget, e_clen, e_ccat, v_asg, v_asgO, v_unp, v_par, v_setI, v_setK, v_aug, v_app, v_exp, v_ret, v_retO, v_retN, v_ite, v_for_, v_pass, v_never, v_frz, v_cset, immAt, pkAt, MP.setI, ownAt, lstOwn, dicOwn, MP.setO, List.map_cons, List.map_nil, List.length_cons, List.length_nil, List.cons_append, List.nil_append, List.getElem?_cons_zero, List.getElem?_cons_succ, R.of_some, R.of_none, R.bind_ok, RS.of_ok, RS.seq_nx, RS.seq_ret, nc0, nc1, nc2, nc3, nc4, nc5, nc6, nc7, nc8, nc9, s_bind, s_map, s_eqI, s_neI, s_eqS, s_neS, atI_0, atI_1, atI_2, atI_3, s_int1, s_int2, s_max, s_mod, s_ix1, s_ix2, s_len1, s_len2, s_list1, s_list2, s_list3, s_tup1, s_tup2, decide_true, decide_false, if_true, if_false, s_ge, s_lt, s_le, s_gt, s_truth, List.set_cons_zero, List.set_cons_succ, s_mul, Bool.or_true, s_add1, s_add3, s_add4, s_sub, s_fdiv, Bool.and_true, Bool.false_eq_true, List.replicate, Nat.reduceAdd, Nat.reduceSub, Int.reduceAdd, Int.reduceSub, Int.reduceMul, fnL, constF, newCell, R.bind_stuck, wipeE, mkL_of (xs := [D.str "a", .str "b", .str "c"]) (n := 3) rfl (by decide), q1, q2, q3, mkT_of (xs := [m, x, y]) (n := 3) rfl (by decide)]
    refine Rs.ok ⟨?_, hs3⟩
    simp at hm
    rcases hm with rfl | rfl | rfl <;> exact .mk (by simp [IsMk]) hx hy⟩) h1
  simp only [evDef, startE, evSs, evEs, evO, evIf, evSrc, s_it1, s_it2, s_it3, e_lit, e_glob, e_var, e_pk, e_tup, e_lst, e_bin, e_star, e_neg, e_cmp, e_isN, e_chain, e_and, e_or, e_not, e_ite, e_idx, e_slice, e_fld, e_call, e_blt, e_isi, e_join, e_comp, e_dcomp, e_dic0, e_cidx, e_cell, e_cget, e_clen, e_ccat, v_asg, v_asgO, v_unp, v_par, v_setI, v_setK, v_aug, v_app, v_exp, v_ret, v_retO, v_retN, v_ite, v_for_, v_pass, v_never, v_frz, v_cset, immAt, pkAt, MP.setI, ownAt, lstOwn, dicOwn, MP.setO, List.map_cons, List.map_nil, List.length_cons, List.length_nil, List.cons_append, List.nil_append, List.getElem?_cons_zero, List.getElem?_cons_succ, R.of_some, R.of_none, R.bind_ok, RS.of_ok, RS.seq_nx, RS.seq_ret, nc0, nc1, nc2, nc3, nc4, nc5, nc6, nc7, nc8, nc9, s_bind, s_map, s_eqI, s_neI, s_eqS, s_neS, atI_0, atI_1, atI_2, atI_3, s_int1, s_int2, s_max, s_mod, s_ix1, s_ix2, s_len1, s_len2, s_list1, s_list2, s_list3, s_tup1, s_tup2, decide_true, decide_false, if_true, if_false, s_ge, s_lt, s_le, s_gt, s_truth, List.set_cons_zero, List.set_cons_succ, s_mul, Bool.or_true, s_add1, s_add3, s_add4, s_sub, s_fdiv, Bool.and_true, Bool.false_eq_true, List.replicate, Nat.reduceAdd, Nat.reduceSub, Int.reduceAdd, Int.reduceSub, Int.reduceMul, fnL, constF, newCell, R.bind_stuck, F_law_table, b_law_table, N_law_table, e1, er, e2]
  exact Rs.ok ⟨⟨es, rfl, p2, by rw [l2]; simp [rngItems]; omega⟩, h2⟩
theorem parts_okM {T S : Sto} {mo : Int} (g0 : 0 ≤ mo) (g5 : mo ≤ 5) (h : (HSt T) S) : Rs (F_law_parts [.ref 1, .int mo] S) fun d S' => (∃ hd xs cs, d = .tup [.str hd, .lst xs, .str cs] ∧ IsHeld hd ∧ StepsOk xs ∧ xs.length ≤ 5 ∧ IsCols cs) ∧ (HSt T) S' := by
  obtain ⟨a, S1, e1, p1, h1⟩ := pick_ok (xs := [D.str "a", .str "b", .str "c", .str "ab", .str "ac", .str "bc"]) h (by decide) (by decide)
  obtain ⟨_, S2, e2, ⟨xs, rfl, p2, p3⟩, h2⟩ := steps_okM g0 g5 h1
  obtain ⟨c, S3, e3, p4, h3⟩ := pick_ok (xs := [D.str "x", .str "y", .str "xy"]) h2 (by decide) (by decide)
  simp only [evDef, startE, evSs, evEs, evO, evIf, evSrc, s_it1, s_it2, s_it3, e_lit, e_glob, e_var, e_pk, e_tup, e_lst, e_bin, e_star, e_neg, e_cmp, e_isN, e_chain, e_and, e_or, e_not, e_ite, e_idx, e_slice, e_fld, e_call, e_blt, e_isi, e_join, e_comp, e_dcomp, e_dic0, e_cidx, e_cell, e_cget, e_clen, e_ccat, v_asg, v_asgO, v_unp, v_par, v_setI, v_setK, v_aug, v_app, v_exp, v_ret, v_retO, v_retN, v_ite, v_for_, v_pass, v_never, v_frz, v_cset, immAt, pkAt, MP.setI, ownAt, lstOwn, dicOwn, MP.setO, List.map_cons, List.map_nil, List.length_cons, List.length_nil, List.cons_append, List.nil_append, List.getElem?_cons_zero, List.getElem?_cons_succ, R.of_some, R.of_none, R.bind_ok, RS.of_ok, RS.seq_nx, RS.seq_ret, nc0, nc1, nc2, nc3, nc4, nc5, nc6, nc7, nc8, nc9, s_bind, s_map, s_eqI, s_neI, s_eqS, s_neS, atI_0, atI_1, atI_2, atI_3, s_int1, s_int2, s_max, s_mod, s_ix1, s_ix2, s_len1, s_len2, s_list1, s_list2, s_list3, s_tup1, s_tup2, decide_true, decide_false, if_true, if_false, s_ge, s_lt, s_le, s_gt, s_truth, List.set_cons_zero, List.set_cons_succ, s_mul, Bool.or_true, s_add1, s_add3, s_add4, s_sub, s_fdiv, Bool.and_true, Bool.false_eq_true, List.replicate, Nat.reduceAdd, Nat.reduceSub, Int.reduceAdd, Int.reduceSub, Int.reduceMul, fnL, constF, newCell, R.bind_stuck, F_law_parts, b_law_parts, N_law_parts, mkL_of (xs := [D.str "a", .str "b", .str "c", .str "ab", .str "ac", .str "bc"]) (n := 6) rfl (by decide), mkL_of (xs := [D.str "x", .str "y", .str "xy"]) (n := 3) rfl (by decide), e1, e2, e3, mkT_of (xs := [a, .lst xs, c]) (n := 3) rfl (by decide)]
  refine Rs.ok ⟨?_, h3⟩
  simp at p1 p4
  rcases p1 with rfl | rfl | rfl | rfl | rfl | rfl <;> rcases p4 with rfl | rfl | rfl <;> exact ⟨_, xs, _, rfl, by simp [IsHeld], p2, p3, by simp [IsCols]⟩
theorem parts_ok {T S : Sto} (h : (HSt T) S) : Rs (F_law_parts [.ref 1, .int 5] S) fun d S' => (∃ hd xs cs, d = .tup [.str hd, .lst xs, .str cs] ∧ IsHeld hd ∧ StepsOk xs ∧ xs.length ≤ 5 ∧ IsCols cs) ∧ (HSt T) S' := parts_okM (by decide) (by decide) h

theorem held_ok {x : Str} (h : IsHeld x) (S : Sto) : F_check_held [.str x] S = .ok .non S := by
  rcases h with rfl | rfl | rfl | rfl | rfl | rfl
  all_goals kernel_rfl
theorem int_ok (i : Int) (h : -9 ≤ i) (h' : i ≤ 9) (S : Sto) : F_is_integer [.int i, .int (-9), .int 9] S = .ok (.bl true) S := by
  simp only [evDef, startE, evSs, evEs, evO, evIf, evSrc, s_it1, s_it2, s_it3, e_lit, e_glob, e_var, e_pk, e_tup, e_lst, e_bin, e_star, e_neg, e_cmp, e_isN, e_chain, e_and, e_or, e_not, e_ite, e_idx, e_slice, e_fld, e_call, e_blt, e_isi, e_join, e_comp, e_dcomp, e_dic0, e_cidx, e_cell, e_cget, e_clen, e_ccat, v_asg, v_asgO, v_unp, v_par, v_setI, v_setK, v_aug, v_app, v_exp, v_ret, v_retO, v_retN, v_ite, v_for_, v_pass, v_never, v_frz, v_cset, immAt, pkAt, MP.setI, ownAt, lstOwn, dicOwn, MP.setO, List.map_cons, List.map_nil, List.length_cons, List.length_nil, List.cons_append, List.nil_append, List.getElem?_cons_zero, List.getElem?_cons_succ, R.of_some, R.of_none, R.bind_ok, RS.of_ok, RS.seq_nx, RS.seq_ret, nc0, nc1, nc2, nc3, nc4, nc5, nc6, nc7, nc8, nc9, s_bind, s_map, s_eqI, s_neI, s_eqS, s_neS, atI_0, atI_1, atI_2, atI_3, s_int1, s_int2, s_max, s_mod, s_ix1, s_ix2, s_len1, s_len2, s_list1, s_list2, s_list3, s_tup1, s_tup2, decide_true, decide_false, if_true, if_false, s_ge, s_lt, s_le, s_gt, s_truth, List.set_cons_zero, List.set_cons_succ, s_mul, Bool.or_true, s_add1, s_add3, s_add4, s_sub, s_fdiv, Bool.and_true, Bool.false_eq_true, List.replicate, Nat.reduceAdd, Nat.reduceSub, Int.reduceAdd, Int.reduceSub, Int.reduceMul, fnL, constF, newCell, R.bind_stuck, F_is_integer, b_is_integer, N_is_integer, isTys, List.any_cons, List.any_nil, isTy, dNot, Bool.or_false, Bool.not_true, isNb, Bool.not_false, h, h', s_ge, s_le]
theorem col_ok {x : Str} (h : x = "x" ∨ x = "y") (S : Sto) : F_is_word [.str x, .tup [.str "x", .str "y"]] S = .ok (.bl true) S := by
  rcases h with rfl | rfl
  all_goals rfl
theorem told_ok {x : Str} (h : IsCols x) (S : Sto) : F_is_word [.str x, .tup [.str "x", .str "y", .str "xy"]] S = .ok (.bl true) S := by
  rcases h with rfl | rfl | rfl
  all_goals rfl
theorem isw_ok {d : D} (h : IsW d) (S : Sto) : F_is_worth [d] S = .ok (.bl true) S := by
  cases h with
  | @int i h h' =>
    have := int_ok i h h' S
    simp only [evDef, startE, evSs, evEs, evO, evIf, evSrc, s_it1, s_it2, s_it3, e_lit, e_glob, e_var, e_pk, e_tup, e_lst, e_bin, e_star, e_neg, e_cmp, e_isN, e_chain, e_and, e_or, e_not, e_ite, e_idx, e_slice, e_fld, e_call, e_blt, e_isi, e_join, e_comp, e_dcomp, e_dic0, e_cidx, e_cell, e_cget, e_clen, e_ccat, v_asg, v_asgO, v_unp, v_par, v_setI, v_setK, v_aug, v_app, v_exp, v_ret, v_retO, v_retN, v_ite, v_for_, v_pass, v_never, v_frz, v_cset, immAt, pkAt, MP.setI, ownAt, lstOwn, dicOwn, MP.setO, List.map_cons, List.map_nil, List.length_cons, List.length_nil, List.cons_append, List.nil_append, List.getElem?_cons_zero, List.getElem?_cons_succ, R.of_some, R.of_none, R.bind_ok, RS.of_ok, RS.seq_nx, RS.seq_ret, nc0, nc1, nc2, nc3, nc4, nc5, nc6, nc7, nc8, nc9, s_bind, s_map, s_eqI, s_neI, s_eqS, s_neS, atI_0, atI_1, atI_2, atI_3, s_int1, s_int2, s_max, s_mod, s_ix1, s_ix2, s_len1, s_len2, s_list1, s_list2, s_list3, s_tup1, s_tup2, decide_true, decide_false, if_true, if_false, s_ge, s_lt, s_le, s_gt, s_truth, List.set_cons_zero, List.set_cons_succ, s_mul, Bool.or_true, s_add1, s_add3, s_add4, s_sub, s_fdiv, Bool.and_true, Bool.false_eq_true, List.replicate, Nat.reduceAdd, Nat.reduceSub, Int.reduceAdd, Int.reduceSub, Int.reduceMul, fnL, constF, newCell, R.bind_stuck, F_is_worth, b_is_worth, N_is_worth, Int.reduceNeg, this]
  | @tup w c s b h1 h2 h3 =>
    rcases h1 with rfl | rfl <;> rcases h2 with rfl | rfl <;> rcases h3 with rfl | rfl | rfl <;> rfl
theorem in_w {w : Str} (h : w = "fill" ∨ w = "less" ∨ w = "put" ∨ w = "times") : dCmp .in_ (.str w) (.tup [.str "fill", .str "less", .str "times", .str "put"]) = some true := by
  rcases h with rfl | rfl | rfl | rfl
  all_goals rfl
theorem isst_ok {d : D} (h : IsSt d) (S : Sto) : F_is_step [d] S = .ok (.bl true) S := by
  cases h with
  | add h1 h2 => rcases h1 with rfl | rfl <;> rcases h2 with rfl | rfl <;> rfl
  | @put w c v h1 h2 h3 =>
    have := isw_ok h3 S
    have q := col_ok h2 S
    have hw := in_w h1
    rcases h1 with rfl | rfl | rfl | rfl
    all_goals simp only [evDef, startE, evSs, evEs, evO, evIf, evSrc, s_it1, s_it2, s_it3, e_lit, e_glob, e_var, e_pk, e_tup, e_lst, e_bin, e_star, e_neg, e_cmp, e_isN, e_chain, e_and, e_or, e_not, e_ite, e_idx, e_slice, e_fld, e_call, e_blt, e_isi, e_join, e_comp, e_dcomp, e_dic0, e_cidx, e_cell, e_cget, e_clen, e_ccat, v_asg, v_asgO, v_unp, v_par, v_setI, v_setK, v_aug, v_app, v_exp, v_ret, v_retO, v_retN, v_ite, v_for_, v_pass, v_never, v_frz, v_cset, immAt, pkAt, MP.setI, ownAt, lstOwn, dicOwn, MP.setO, List.map_cons, List.map_nil, List.length_cons, List.length_nil, List.cons_append, List.nil_append, List.getElem?_cons_zero, List.getElem?_cons_succ, R.of_some, R.of_none, R.bind_ok, RS.of_ok, RS.seq_nx, RS.seq_ret, nc0, nc1, nc2, nc3, nc4, nc5, nc6, nc7, nc8, nc9, s_bind, s_map, s_eqI, s_neI, s_eqS, s_neS, atI_0, atI_1, atI_2, atI_3, s_int1, s_int2, s_max, s_mod, s_ix1, s_ix2, s_len1, s_len2, s_list1, s_list2, s_list3, s_tup1, s_tup2, decide_true, decide_false, if_true, if_false, s_ge, s_lt, s_le, s_gt, s_truth, List.set_cons_zero, List.set_cons_succ, s_mul, Bool.or_true, s_add1, s_add3, s_add4, s_sub, s_fdiv, Bool.and_true, Bool.false_eq_true, List.replicate, Nat.reduceAdd, Nat.reduceSub, Int.reduceAdd, Int.reduceSub, Int.reduceMul, fnL, constF, newCell, R.bind_stuck, Bool.not_false, F_is_step, b_is_step, N_is_step, isTys, List.any_cons, List.any_nil, isTy, dNot, Bool.or_false, Bool.not_true, Bool.not_false, this, q, hw, (by decide : ¬ ("fill" : Str) = "add"), (by decide : ¬ ("less" : Str) = "add"), (by decide : ¬ ("put" : Str) = "add"), (by decide : ¬ ("times" : Str) = "add")]
theorem nT : ∀ {d : D}, isT d = true → ∃ ds, d = .tup (.str "times" :: ds)
  | .tup (.str w :: ds), h => ⟨ds, by simp [isT] at h; rw [h]⟩
theorem st_w {y : D} (h : IsSt y) : ∃ w, dIdx y (.int 0) = some (.str w) ∧ decide (w = ("times" : Str)) = isT y := by cases h <;> exact ⟨_, rfl, rfl⟩
theorem steps_run {xs : List D} (hx : StepsOk xs) (hl : xs.length ≤ 5) (S : Sto) : F_check_steps [.lst xs] S = .ok .non S := by
  have run : Rs (F_check_steps [.lst xs] S) fun d S' => d = .non ∧ S' = S := by
    refine def_run ?_
    simp only [evDef, startE, evSs, evEs, evO, evIf, evSrc, s_it1, s_it2, s_it3, e_lit, e_glob, e_var, e_pk, e_tup, e_lst, e_bin, e_star, e_neg, e_cmp, e_isN, e_chain, e_and, e_or, e_not, e_ite, e_idx, e_slice, e_fld, e_call, e_blt, e_isi, e_join, e_comp, e_dcomp, e_dic0, e_cidx, e_cell, e_cget, e_clen, e_ccat, v_asg, v_asgO, v_unp, v_par, v_setI, v_setK, v_aug, v_app, v_exp, v_ret, v_retO, v_retN, v_ite, v_for_, v_pass, v_never, v_frz, v_cset, immAt, pkAt, MP.setI, ownAt, lstOwn, dicOwn, MP.setO, List.map_cons, List.map_nil, List.length_cons, List.length_nil, List.cons_append, List.nil_append, List.getElem?_cons_zero, List.getElem?_cons_succ, R.of_some, R.of_none, R.bind_ok, RS.of_ok, RS.seq_nx, RS.seq_ret, nc0, nc1, nc2, nc3, nc4, nc5, nc6, nc7, nc8, nc9, s_bind, s_map, s_eqI, s_neI, s_eqS, s_neS, atI_0, atI_1, atI_2, atI_3, s_int1, s_int2, s_max, s_mod, s_ix1, s_ix2, s_len1, s_len2, s_list1, s_list2, s_list3, s_tup1, s_tup2, decide_true, decide_false, if_true, if_false, s_ge, s_lt, s_le, s_gt, s_truth, List.set_cons_zero, List.set_cons_succ, s_mul, Bool.or_true, s_add1, s_add3, s_add4, s_sub, s_fdiv, Bool.and_true, Bool.false_eq_true, List.replicate, Nat.reduceAdd, Nat.reduceSub, Int.reduceAdd, Int.reduceSub, Int.reduceMul, fnL, constF, newCell, R.bind_stuck, b_check_steps, N_check_steps, isTys, List.any_cons, List.any_nil, isTy, dNot, Bool.or_false, Bool.true_or, Bool.not_true, lstItems, seqItems]
    refine Rt.seq (M := fun _ s => s = S) (Rt.imp (forS_run (fun ds ρ s => ∃ (k : Nat) (ys : List D) (t : Int) (a b : Slot), ds = enumFrom' k ys ∧ ρ = [.imm (.lst xs), .imm (.int t), a, b] ∧ k + ys.length ≤ 5 ∧ (∀ d ∈ ys, IsSt d) ∧ 0 ≤ t ∧ t + (ys.filterMap gT).length ≤ 1 ∧ s = S) ?_ ⟨0, xs, 0, _, _, rfl, rfl, by omega, hx.all, by omega, by have := hx.one; omega, rfl⟩) (fun ρ s ⟨k, ys, t, a, b, _, _, _, _, _, _, e⟩ => e) fun _ _ h => h) ?_
    · rintro d ds ρ s ⟨k, ys, t, a, b, e, rfl, h1, h2, h3, h4, rfl⟩
      cases ys with
      | nil => cases e
      | cons y ys =>
        simp only [enumFrom', List.cons.injEq] at e
        obtain ⟨rfl, rfl⟩ := e
        refine ⟨_, rfl, ?_⟩
        have hy := h2 y List.mem_cons_self
        have st := isst_ok hy s
        have hk : ¬ (k : Int) = 5 := by simp at h1; omega
        simp only [evDef, startE, evSs, evEs, evO, evIf, evSrc, s_it1, s_it2, s_it3, e_lit, e_glob, e_var, e_pk, e_tup, e_lst, e_bin, e_star, e_neg, e_cmp, e_isN, e_chain, e_and, e_or, e_not, e_ite, e_idx, e_slice, e_fld, e_call, e_blt, e_isi, e_join, e_comp, e_dcomp, e_dic0, e_cidx, e_cell, e_cget, e_clen, e_ccat, v_asg, v_asgO, v_unp, v_par, v_setI, v_setK, v_aug, v_app, v_exp, v_ret, v_retO, v_retN, v_ite, v_for_, v_pass, v_never, v_frz, v_cset, immAt, pkAt, MP.setI, ownAt, lstOwn, dicOwn, MP.setO, List.map_cons, List.map_nil, List.length_cons, List.length_nil, List.cons_append, List.nil_append, List.getElem?_cons_zero, List.getElem?_cons_succ, R.of_some, R.of_none, R.bind_ok, RS.of_ok, RS.seq_nx, RS.seq_ret, nc0, nc1, nc2, nc3, nc4, nc5, nc6, nc7, nc8, nc9, s_bind, s_map, s_eqI, s_neI, s_eqS, s_neS, atI_0, atI_1, atI_2, atI_3, s_int1, s_int2, s_max, s_mod, s_ix1, s_ix2, s_len1, s_len2, s_list1, s_list2, s_list3, s_tup1, s_tup2, decide_true, decide_false, if_true, if_false, s_ge, s_lt, s_le, s_gt, s_truth, List.set_cons_zero, List.set_cons_succ, s_mul, Bool.or_true, s_add1, s_add3, s_add4, s_sub, s_fdiv, Bool.and_true, Bool.false_eq_true, List.replicate, Nat.reduceAdd, Nat.reduceSub, Int.reduceAdd, Int.reduceSub, Int.reduceMul, fnL, constF, newCell, R.bind_stuck, setAll, hk, st, dNot, Bool.not_true]
        obtain ⟨w, w1, w2⟩ := st_w hy
        have ad : ∀ i j : Int, dAug .add (.int i) (.int j) = some (.int (i + j)) := fun _ _ => rfl
        cases hT : isT y with
        | true =>
          rw [hT] at w2
          have g1 : (y :: ys).filterMap gT = y :: ys.filterMap gT := by rw [List.filterMap_cons]; simp [gT, hT]
          rw [g1, List.length_cons] at h4
          have g2 : ¬ (1 < t + 1) := by omega
          simp only [evDef, startE, evSs, evEs, evO, evIf, evSrc, s_it1, s_it2, s_it3, e_lit, e_glob, e_var, e_pk, e_tup, e_lst, e_bin, e_star, e_neg, e_cmp, e_isN, e_chain, e_and, e_or, e_not, e_ite, e_idx, e_slice, e_fld, e_call, e_blt, e_isi, e_join, e_comp, e_dcomp, e_dic0, e_cidx, e_cell, e_cget, e_clen, e_ccat, v_asg, v_asgO, v_unp, v_par, v_setI, v_setK, v_aug, v_app, v_exp, v_ret, v_retO, v_retN, v_ite, v_for_, v_pass, v_never, v_frz, v_cset, immAt, pkAt, MP.setI, ownAt, lstOwn, dicOwn, MP.setO, List.map_cons, List.map_nil, List.length_cons, List.length_nil, List.cons_append, List.nil_append, List.getElem?_cons_zero, List.getElem?_cons_succ, R.of_some, R.of_none, R.bind_ok, RS.of_ok, RS.seq_nx, RS.seq_ret, nc0, nc1, nc2, nc3, nc4, nc5, nc6, nc7, nc8, nc9, s_bind, s_map, s_eqI, s_neI, s_eqS, s_neS, atI_0, atI_1, atI_2, atI_3, s_int1, s_int2, s_max, s_mod, s_ix1, s_ix2, s_len1, s_len2, s_list1, s_list2, s_list3, s_tup1, s_tup2, decide_true, decide_false, if_true, if_false, s_ge, s_lt, s_le, s_gt, s_truth, List.set_cons_zero, List.set_cons_succ, s_mul, Bool.or_true, s_add1, s_add3, s_add4, s_sub, s_fdiv, Bool.and_true, Bool.false_eq_true, List.replicate, Nat.reduceAdd, Nat.reduceSub, Int.reduceAdd, Int.reduceSub, Int.reduceMul, fnL, constF, newCell, R.bind_stuck, w1, w2, ad, g2]
          exact Rt.nx ⟨k + 1, ys, t + 1, _, _, rfl, rfl, by simp at h1; omega, fun d hd => h2 d (List.mem_cons_of_mem y hd), by omega, by omega, rfl⟩
        | false =>
          rw [hT] at w2
          have g1 : (y :: ys).filterMap gT = ys.filterMap gT := by rw [List.filterMap_cons]; simp [gT, hT]
          rw [g1] at h4
          have g2 : ¬ (1 < t + 0) := by omega
          simp only [evDef, startE, evSs, evEs, evO, evIf, evSrc, s_it1, s_it2, s_it3, e_lit, e_glob, e_var, e_pk, e_tup, e_lst, e_bin, e_star, e_neg, e_cmp, e_isN, e_chain, e_and, e_or, e_not, e_ite, e_idx, e_slice, e_fld, e_call, e_blt, e_isi, e_join, e_comp, e_dcomp, e_dic0, e_cidx, e_cell, e_cget, e_clen, e_ccat, v_asg, v_asgO, v_unp, v_par, v_setI, v_setK, v_aug, v_app, v_exp, v_ret, v_retO, v_retN, v_ite, v_for_, v_pass, v_never, v_frz, v_cset, immAt, pkAt, MP.setI, ownAt, lstOwn, dicOwn, MP.setO, List.map_cons, List.map_nil, List.length_cons, List.length_nil, List.cons_append, List.nil_append, List.getElem?_cons_zero, List.getElem?_cons_succ, R.of_some, R.of_none, R.bind_ok, RS.of_ok, RS.seq_nx, RS.seq_ret, nc0, nc1, nc2, nc3, nc4, nc5, nc6, nc7, nc8, nc9, s_bind, s_map, s_eqI, s_neI, s_eqS, s_neS, atI_0, atI_1, atI_2, atI_3, s_int1, s_int2, s_max, s_mod, s_ix1, s_ix2, s_len1, s_len2, s_list1, s_list2, s_list3, s_tup1, s_tup2, decide_true, decide_false, if_true, if_false, s_ge, s_lt, s_le, s_gt, s_truth, List.set_cons_zero, List.set_cons_succ, s_mul, Bool.or_true, s_add1, s_add3, s_add4, s_sub, s_fdiv, Bool.and_true, Bool.false_eq_true, List.replicate, Nat.reduceAdd, Nat.reduceSub, Int.reduceAdd, Int.reduceSub, Int.reduceMul, fnL, constF, newCell, R.bind_stuck, w1, w2, ad, g2]
          exact Rt.nx ⟨k + 1, ys, t + 0, _, _, rfl, rfl, by simp at h1; omega, fun d hd => h2 d (List.mem_cons_of_mem y hd), by omega, by omega, rfl⟩
    · rintro ρ s rfl
      exact Rt.nx ⟨trivial, rfl⟩
  obtain ⟨d, S', e, rfl, rfl⟩ := run
  exact e

theorem new_prg {hd cs : Str} {xs : List D} (h1 : IsHeld hd) (h2 : StepsOk xs) (h3 : xs.length ≤ 5) (h4 : IsCols cs) (S : Sto) : F_new_Program [.str hd, .lst xs, .str cs] S = .ok (.prg hd xs cs) S := by
  have e1 := held_ok h1 S
  have e2 := steps_run h2 h3 S
  have e3 := told_ok h4 S
  simp only [evDef, startE, evSs, evEs, evO, evIf, evSrc, s_it1, s_it2, s_it3, e_lit, e_glob, e_var, e_pk, e_tup, e_lst, e_bin, e_star, e_neg, e_cmp, e_isN, e_chain, e_and, e_or, e_not, e_ite, e_idx, e_slice, e_fld, e_call, e_blt, e_isi, e_join, e_comp, e_dcomp, e_dic0, e_cidx, e_cell, e_cget, e_clen, e_ccat, v_asg, v_asgO, v_unp, v_par, v_setI, v_setK, v_aug, v_app, v_exp, v_ret, v_retO, v_retN, v_ite, v_for_, v_pass, v_never, v_frz, v_cset, immAt, pkAt, MP.setI, ownAt, lstOwn, dicOwn, MP.setO, List.map_cons, List.map_nil, List.length_cons, List.length_nil, List.cons_append, List.nil_append, List.getElem?_cons_zero, List.getElem?_cons_succ, R.of_some, R.of_none, R.bind_ok, RS.of_ok, RS.seq_nx, RS.seq_ret, nc0, nc1, nc2, nc3, nc4, nc5, nc6, nc7, nc8, nc9, s_bind, s_map, s_eqI, s_neI, s_eqS, s_neS, atI_0, atI_1, atI_2, atI_3, s_int1, s_int2, s_max, s_mod, s_ix1, s_ix2, s_len1, s_len2, s_list1, s_list2, s_list3, s_tup1, s_tup2, decide_true, decide_false, if_true, if_false, s_ge, s_lt, s_le, s_gt, s_truth, List.set_cons_zero, List.set_cons_succ, s_mul, Bool.or_true, s_add1, s_add3, s_add4, s_sub, s_fdiv, Bool.and_true, Bool.false_eq_true, List.replicate, Nat.reduceAdd, Nat.reduceSub, Int.reduceAdd, Int.reduceSub, Int.reduceMul, fnL, constF, newCell, R.bind_stuck, F_new_Program, iniF, b_new_Program, tst, e1, e2, e3, dNot, Bool.not_true, prgOf, R.nox_ok]
/-! ### rows -/
structure Row where
  m : Str
  x : Option Int
  y : Option Int
def ent : Option Int → D
  | none => .non
  | some i => .int i
def Row.d (r : Row) : D := .tup [.str r.m, ent r.x, ent r.y]
def Row.at (r : Row) (c : Str) : Option Int := if c = "x" then r.x else r.y
def Row.put (r : Row) (c : Str) (e : Option Int) : Row := if c = "x" then { r with x := e } else { r with y := e }
theorem entry_of {r : Row} {c : Str} (hc : c = "x" ∨ c = "y") (S : Sto) : F_entry_of [r.d, .str c] S = .ok (ent (r.at c)) S := by
  rcases hc with rfl | rfl
  · have : dCidx ["x", "y"] (.str "x") = some (.int 0) := rfl
    simp only [evDef, startE, evSs, evEs, evO, evIf, evSrc, s_it1, s_it2, s_it3, e_lit, e_glob, e_var, e_pk, e_tup, e_lst, e_bin, e_star, e_neg, e_cmp, e_isN, e_chain, e_and, e_or, e_not, e_ite, e_idx, e_slice, e_fld, e_call, e_blt, e_isi, e_join, e_comp, e_dcomp, e_dic0, e_cidx, e_cell, e_cget, e_clen, e_ccat, v_asg, v_asgO, v_unp, v_par, v_setI, v_setK, v_aug, v_app, v_exp, v_ret, v_retO, v_retN, v_ite, v_for_, v_pass, v_never, v_frz, v_cset, immAt, pkAt, MP.setI, ownAt, lstOwn, dicOwn, MP.setO, List.map_cons, List.map_nil, List.length_cons, List.length_nil, List.cons_append, List.nil_append, List.getElem?_cons_zero, List.getElem?_cons_succ, R.of_some, R.of_none, R.bind_ok, RS.of_ok, RS.seq_nx, RS.seq_ret, nc0, nc1, nc2, nc3, nc4, nc5, nc6, nc7, nc8, nc9, s_bind, s_map, s_eqI, s_neI, s_eqS, s_neS, atI_0, atI_1, atI_2, atI_3, s_int1, s_int2, s_max, s_mod, s_ix1, s_ix2, s_len1, s_len2, s_list1, s_list2, s_list3, s_tup1, s_tup2, decide_true, decide_false, if_true, if_false, s_ge, s_lt, s_le, s_gt, s_truth, List.set_cons_zero, List.set_cons_succ, s_mul, Bool.or_true, s_add1, s_add3, s_add4, s_sub, s_fdiv, Bool.and_true, Bool.false_eq_true, List.replicate, Nat.reduceAdd, Nat.reduceSub, Int.reduceAdd, Int.reduceSub, Int.reduceMul, fnL, constF, newCell, R.bind_stuck, F_entry_of, b_entry_of, N_entry_of, this, Row.d, Int.reduceAdd, Row.at]
  · have : dCidx ["x", "y"] (.str "y") = some (.int 1) := rfl
    simp only [evDef, startE, evSs, evEs, evO, evIf, evSrc, s_it1, s_it2, s_it3, e_lit, e_glob, e_var, e_pk, e_tup, e_lst, e_bin, e_star, e_neg, e_cmp, e_isN, e_chain, e_and, e_or, e_not, e_ite, e_idx, e_slice, e_fld, e_call, e_blt, e_isi, e_join, e_comp, e_dcomp, e_dic0, e_cidx, e_cell, e_cget, e_clen, e_ccat, v_asg, v_asgO, v_unp, v_par, v_setI, v_setK, v_aug, v_app, v_exp, v_ret, v_retO, v_retN, v_ite, v_for_, v_pass, v_never, v_frz, v_cset, immAt, pkAt, MP.setI, ownAt, lstOwn, dicOwn, MP.setO, List.map_cons, List.map_nil, List.length_cons, List.length_nil, List.cons_append, List.nil_append, List.getElem?_cons_zero, List.getElem?_cons_succ, R.of_some, R.of_none, R.bind_ok, RS.of_ok, RS.seq_nx, RS.seq_ret, nc0, nc1, nc2, nc3, nc4, nc5, nc6, nc7, nc8, nc9, s_bind, s_map, s_eqI, s_neI, s_eqS, s_neS, atI_0, atI_1, atI_2, atI_3, s_int1, s_int2, s_max, s_mod, s_ix1, s_ix2, s_len1, s_len2, s_list1, s_list2, s_list3, s_tup1, s_tup2, decide_true, decide_false, if_true, if_false, s_ge, s_lt, s_le, s_gt, s_truth, List.set_cons_zero, List.set_cons_succ, s_mul, Bool.or_true, s_add1, s_add3, s_add4, s_sub, s_fdiv, Bool.and_true, Bool.false_eq_true, List.replicate, Nat.reduceAdd, Nat.reduceSub, Int.reduceAdd, Int.reduceSub, Int.reduceMul, fnL, constF, newCell, R.bind_stuck, F_entry_of, b_entry_of, N_entry_of, this, Row.d, Int.reduceAdd, Row.at, (by decide : ¬ ("y" : Str) = "x")]
theorem sl_t (xs : List D) (l h : Option Int) : dSlice (.tup xs) l h = some (.tup (cut xs l h)) := rfl
section
variable (a b c : D)
theorem cut_a : cut [a, b, c] none (some 1) = [a] := rfl
theorem cut_b : cut [a, b, c] (some 2) none = [c] := rfl
theorem cut_c : cut [a, b, c] none (some 2) = [a, b] := rfl
theorem cut_d : cut [a, b, c] (some 3) none = [] := rfl
theorem cut_e : cut [a, b, c] (some 1) none = [b, c] := rfl
end
theorem with_entry {r : Row} {c : Str} {e : Option Int} (hc : c = "x" ∨ c = "y") (S : Sto) : F_with_entry [r.d, .str c, ent e] S = .ok (r.put c e).d S := by
  have hT : ∀ x y z : D, mkTup [x, y, z] = some (.tup [x, y, z]) := fun x y z => mkT_of (n := 3) rfl (by decide)
  rcases hc with rfl | rfl
  · have : dCidx ["x", "y"] (.str "x") = some (.int 0) := rfl
    simp only [evDef, startE, evSs, evEs, evO, evIf, evSrc, s_it1, s_it2, s_it3, e_lit, e_glob, e_var, e_pk, e_tup, e_lst, e_bin, e_star, e_neg, e_cmp, e_isN, e_chain, e_and, e_or, e_not, e_ite, e_idx, e_slice, e_fld, e_call, e_blt, e_isi, e_join, e_comp, e_dcomp, e_dic0, e_cidx, e_cell, e_cget, e_clen, e_ccat, v_asg, v_asgO, v_unp, v_par, v_setI, v_setK, v_aug, v_app, v_exp, v_ret, v_retO, v_retN, v_ite, v_for_, v_pass, v_never, v_frz, v_cset, immAt, pkAt, MP.setI, ownAt, lstOwn, dicOwn, MP.setO, List.map_cons, List.map_nil, List.length_cons, List.length_nil, List.cons_append, List.nil_append, List.getElem?_cons_zero, List.getElem?_cons_succ, R.of_some, R.of_none, R.bind_ok, RS.of_ok, RS.seq_nx, RS.seq_ret, nc0, nc1, nc2, nc3, nc4, nc5, nc6, nc7, nc8, nc9, s_bind, s_map, s_eqI, s_neI, s_eqS, s_neS, atI_0, atI_1, atI_2, atI_3, s_int1, s_int2, s_max, s_mod, s_ix1, s_ix2, s_len1, s_len2, s_list1, s_list2, s_list3, s_tup1, s_tup2, decide_true, decide_false, if_true, if_false, s_ge, s_lt, s_le, s_gt, s_truth, List.set_cons_zero, List.set_cons_succ, s_mul, Bool.or_true, s_add1, s_add3, s_add4, s_sub, s_fdiv, Bool.and_true, Bool.false_eq_true, List.replicate, Nat.reduceAdd, Nat.reduceSub, Int.reduceAdd, Int.reduceSub, Int.reduceMul, fnL, constF, newCell, R.bind_stuck, F_with_entry, b_with_entry, N_with_entry, this, Row.d, Int.reduceAdd, Row.put, sl_t, asInt, cut_a, cut_b, cut_c, cut_d, seqItems, List.append_nil, hT]
  · have : dCidx ["x", "y"] (.str "y") = some (.int 1) := rfl
    simp only [evDef, startE, evSs, evEs, evO, evIf, evSrc, s_it1, s_it2, s_it3, e_lit, e_glob, e_var, e_pk, e_tup, e_lst, e_bin, e_star, e_neg, e_cmp, e_isN, e_chain, e_and, e_or, e_not, e_ite, e_idx, e_slice, e_fld, e_call, e_blt, e_isi, e_join, e_comp, e_dcomp, e_dic0, e_cidx, e_cell, e_cget, e_clen, e_ccat, v_asg, v_asgO, v_unp, v_par, v_setI, v_setK, v_aug, v_app, v_exp, v_ret, v_retO, v_retN, v_ite, v_for_, v_pass, v_never, v_frz, v_cset, immAt, pkAt, MP.setI, ownAt, lstOwn, dicOwn, MP.setO, List.map_cons, List.map_nil, List.length_cons, List.length_nil, List.cons_append, List.nil_append, List.getElem?_cons_zero, List.getElem?_cons_succ, R.of_some, R.of_none, R.bind_ok, RS.of_ok, RS.seq_nx, RS.seq_ret, nc0, nc1, nc2, nc3, nc4, nc5, nc6, nc7, nc8, nc9, s_bind, s_map, s_eqI, s_neI, s_eqS, s_neS, atI_0, atI_1, atI_2, atI_3, s_int1, s_int2, s_max, s_mod, s_ix1, s_ix2, s_len1, s_len2, s_list1, s_list2, s_list3, s_tup1, s_tup2, decide_true, decide_false, if_true, if_false, s_ge, s_lt, s_le, s_gt, s_truth, List.set_cons_zero, List.set_cons_succ, s_mul, Bool.or_true, s_add1, s_add3, s_add4, s_sub, s_fdiv, Bool.and_true, Bool.false_eq_true, List.replicate, Nat.reduceAdd, Nat.reduceSub, Int.reduceAdd, Int.reduceSub, Int.reduceMul, fnL, constF, newCell, R.bind_stuck, F_with_entry, b_with_entry, N_with_entry, this, Row.d, Int.reduceAdd, Row.put, sl_t, asInt, cut_a, cut_b, cut_c, cut_d, seqItems, List.append_nil, hT, (by decide : ¬ ("y" : Str) = "x")]
/-! ### worths, changes -/
/-- a worth's marks, held back ones hd -/
def mks (hd mark sc : Str) (bh : Bool) : List Str := (["a", "b", "c"] : List Str).filter fun o => (decide (sc = "all") || (decide (sc = "same") && decide (o = mark)) || (decide (sc = "ahead") && decide (o.cps.toList < mark.cps.toList))) && (!bh || (Builtin.Str.occurrences hd o 0 hd.length 1).isEmpty)
theorem marks_in {hd mark sc cs : Str} {bh : Bool} {xs : List D} (S : Sto) (h1 : IsHeld hd) (h2 : IsMk mark) (h3 : sc = "all" ∨ sc = "same" ∨ sc = "ahead") : F_marks_in [.prg hd xs cs, .str mark, .str sc, .bl bh] S = .ok (.lst ((mks hd mark sc bh).map .str)) S := by
  rcases h1 with rfl | rfl | rfl | rfl | rfl | rfl <;> rcases h2 with rfl | rfl | rfl <;> rcases h3 with rfl | rfl | rfl <;> cases bh <;> kernel_rfl
theorem changed_add {r : Row} {c e : Str} {w : D} (h1 : c = "x" ∨ c = "y") (h2 : e = "x" ∨ e = "y") (S : Sto) : F_changed_entry [.tup [.str "add", .str c, .str e], r.d, w] S = .ok (ent (match r.at c, r.at e with | some i, some j => some (i + j) | _, _ => none)) S := by
  have e1 := entry_of (r := r) h1 S
  have e2 := entry_of (r := r) h2 S
  cases q1 : r.at c <;> cases q2 : r.at e
  all_goals
    rw [q1] at e1
    rw [q2] at e2
    simp only [evDef, startE, evSs, evEs, evO, evIf, evSrc, s_it1, s_it2, s_it3, e_lit, e_glob, e_var, e_pk, e_tup, e_lst, e_bin, e_star, e_neg, e_cmp, e_isN, e_chain, e_and, e_or, e_not, e_ite, e_idx, e_slice, e_fld, e_call, e_blt, e_isi, e_join, e_comp, e_dcomp, e_dic0, e_cidx, e_cell, e_cget, e_clen, e_ccat, v_asg, v_asgO, v_unp, v_par, v_setI, v_setK, v_aug, v_app, v_exp, v_ret, v_retO, v_retN, v_ite, v_for_, v_pass, v_never, v_frz, v_cset, immAt, pkAt, MP.setI, ownAt, lstOwn, dicOwn, MP.setO, List.map_cons, List.map_nil, List.length_cons, List.length_nil, List.cons_append, List.nil_append, List.getElem?_cons_zero, List.getElem?_cons_succ, R.of_some, R.of_none, R.bind_ok, RS.of_ok, RS.seq_nx, RS.seq_ret, nc0, nc1, nc2, nc3, nc4, nc5, nc6, nc7, nc8, nc9, s_bind, s_map, s_eqI, s_neI, s_eqS, s_neS, atI_0, atI_1, atI_2, atI_3, s_int1, s_int2, s_max, s_mod, s_ix1, s_ix2, s_len1, s_len2, s_list1, s_list2, s_list3, s_tup1, s_tup2, decide_true, decide_false, if_true, if_false, s_ge, s_lt, s_le, s_gt, s_truth, List.set_cons_zero, List.set_cons_succ, s_mul, Bool.or_true, s_add1, s_add3, s_add4, s_sub, s_fdiv, Bool.and_true, Bool.false_eq_true, List.replicate, Nat.reduceAdd, Nat.reduceSub, Int.reduceAdd, Int.reduceSub, Int.reduceMul, fnL, constF, newCell, R.bind_stuck, F_changed_entry, b_changed_entry, N_changed_entry, bindTg, setAll, e1, e2, ent, isNb, Bool.not_false, Bool.not_true]
end PG

namespace PG
open PySem MP
def wv (wa wb wc : Int) (m : Str) : Int := if m = "a" then wa else if m = "b" then wb else wc
def chg (w : Str) (v : Int) (e : Option Int) : Option Int := if w = "put" then some v else if w = "fill" then (match e with | none => some v | some i => some i) else if w = "less" then e.map (fun i => i - v) else e.map (fun i => i * v)
theorem dic_at {m : Str} (h : IsMk m) (wa wb wc : Int) : dIdx (.dic [(.str "a", .int wa), (.str "b", .int wb), (.str "c", .int wc)]) (.str m) = some (.int (wv wa wb wc m)) := by
  rcases h with rfl | rfl | rfl
  all_goals rfl
theorem rd0 (r : Row) : dIdx r.d (.int 0) = some (.str r.m) := atI_0 (D.str r.m) [ent r.x, ent r.y]
theorem changed_w {r : Row} {w c : Str} {u : D} {wa wb wc : Int} (hw : w = "fill" ∨ w = "less" ∨ w = "put" ∨ w = "times") (hc : c = "x" ∨ c = "y") (hm : IsMk r.m) (hs : w = "times" → ∀ i, r.at c = some i → small i = true) (S : Sto) : F_changed_entry [.tup [.str w, .str c, u], r.d, .dic [(.str "a", .int wa), (.str "b", .int wb), (.str "c", .int wc)]] S = .ok (ent (chg w (wv wa wb wc r.m) (r.at c))) S := by
  have e1 := entry_of (r := r) hc S
  have e2 := dic_at hm wa wb wc
  have e3 := rd0 r
  rcases hw with rfl | rfl | rfl | rfl <;> cases q1 : r.at c
  case inr.inr.inr.some i =>
    have sm := hs rfl i q1
    rw [q1] at e1
    simp only [evDef, startE, evSs, evEs, evO, evIf, evSrc, s_it1, s_it2, s_it3, e_lit, e_glob, e_var, e_pk, e_tup, e_lst, e_bin, e_star, e_neg, e_cmp, e_isN, e_chain, e_and, e_or, e_not, e_ite, e_idx, e_slice, e_fld, e_call, e_blt, e_isi, e_join, e_comp, e_dcomp, e_dic0, e_cidx, e_cell, e_cget, e_clen, e_ccat, v_asg, v_asgO, v_unp, v_par, v_setI, v_setK, v_aug, v_app, v_exp, v_ret, v_retO, v_retN, v_ite, v_for_, v_pass, v_never, v_frz, v_cset, immAt, pkAt, MP.setI, ownAt, lstOwn, dicOwn, MP.setO, List.map_cons, List.map_nil, List.length_cons, List.length_nil, List.cons_append, List.nil_append, List.getElem?_cons_zero, List.getElem?_cons_succ, R.of_some, R.of_none, R.bind_ok, RS.of_ok, RS.seq_nx, RS.seq_ret, nc0, nc1, nc2, nc3, nc4, nc5, nc6, nc7, nc8, nc9, s_bind, s_map, s_eqI, s_neI, s_eqS, s_neS, atI_0, atI_1, atI_2, atI_3, s_int1, s_int2, s_max, s_mod, s_ix1, s_ix2, s_len1, s_len2, s_list1, s_list2, s_list3, s_tup1, s_tup2, decide_true, decide_false, if_true, if_false, s_ge, s_lt, s_le, s_gt, s_truth, List.set_cons_zero, List.set_cons_succ, s_mul, Bool.or_true, s_add1, s_add3, s_add4, s_sub, s_fdiv, Bool.and_true, Bool.false_eq_true, List.replicate, Nat.reduceAdd, Nat.reduceSub, Int.reduceAdd, Int.reduceSub, Int.reduceMul, fnL, constF, newCell, R.bind_stuck, F_changed_entry, b_changed_entry, N_changed_entry, bindTg, setAll, e1, e2, e3, ent, isNb, Bool.not_false, Bool.not_true, chg, Option.map_none, Option.map_some, (by decide : ¬ ("times" : Str) = "add"), (by decide : ¬ ("times" : Str) = "put"), (by decide : ¬ ("times" : Str) = "fill"), (by decide : ¬ ("times" : Str) = "less"), sm, Bool.true_or]
  all_goals
    rw [q1] at e1
    simp only [evDef, startE, evSs, evEs, evO, evIf, evSrc, s_it1, s_it2, s_it3, e_lit, e_glob, e_var, e_pk, e_tup, e_lst, e_bin, e_star, e_neg, e_cmp, e_isN, e_chain, e_and, e_or, e_not, e_ite, e_idx, e_slice, e_fld, e_call, e_blt, e_isi, e_join, e_comp, e_dcomp, e_dic0, e_cidx, e_cell, e_cget, e_clen, e_ccat, v_asg, v_asgO, v_unp, v_par, v_setI, v_setK, v_aug, v_app, v_exp, v_ret, v_retO, v_retN, v_ite, v_for_, v_pass, v_never, v_frz, v_cset, immAt, pkAt, MP.setI, ownAt, lstOwn, dicOwn, MP.setO, List.map_cons, List.map_nil, List.length_cons, List.length_nil, List.cons_append, List.nil_append, List.getElem?_cons_zero, List.getElem?_cons_succ, R.of_some, R.of_none, R.bind_ok, RS.of_ok, RS.seq_nx, RS.seq_ret, nc0, nc1, nc2, nc3, nc4, nc5, nc6, nc7, nc8, nc9, s_bind, s_map, s_eqI, s_neI, s_eqS, s_neS, atI_0, atI_1, atI_2, atI_3, s_int1, s_int2, s_max, s_mod, s_ix1, s_ix2, s_len1, s_len2, s_list1, s_list2, s_list3, s_tup1, s_tup2, decide_true, decide_false, if_true, if_false, s_ge, s_lt, s_le, s_gt, s_truth, List.set_cons_zero, List.set_cons_succ, s_mul, Bool.or_true, s_add1, s_add3, s_add4, s_sub, s_fdiv, Bool.and_true, Bool.false_eq_true, List.replicate, Nat.reduceAdd, Nat.reduceSub, Int.reduceAdd, Int.reduceSub, Int.reduceMul, fnL, constF, newCell, R.bind_stuck, F_changed_entry, b_changed_entry, N_changed_entry, bindTg, setAll, e1, e2, e3, ent, isNb, Bool.not_false, Bool.not_true, chg, Option.map_none, Option.map_some, (by decide : ¬ ("fill" : Str) = "add"), (by decide : ¬ ("less" : Str) = "add"), (by decide : ¬ ("put" : Str) = "add"), (by decide : ¬ ("fill" : Str) = "put"), (by decide : ¬ ("less" : Str) = "put"), (by decide : ¬ ("less" : Str) = "fill"), (by decide : ¬ ("put" : Str) = "fill"), (by decide : ¬ ("times" : Str) = "add"), (by decide : ¬ ("times" : Str) = "put"), (by decide : ¬ ("times" : Str) = "fill"), (by decide : ¬ ("times" : Str) = "less")]
theorem compS_map {α : Type} {fn : Nat → FS} {own : List Nat} {tg : Tg} {ifs : Option E} {elt : E} {ρ : Env'} {s : Sto} (f : α → D) (g : α → Option D) : ∀ {xs : List α}, (∀ x ∈ xs, ∃ ρ', bindTg (wipeE ρ own) tg (f x) = some ρ' ∧ ∃ t, evIf fn ρ' ifs s = .ok t s ∧ (if t = true then ∃ e, evE fn ρ' elt s = .ok e s ∧ g x = some e else g x = none)) → compS fn own tg ifs elt ρ (xs.map f) s = .ok (xs.filterMap g) s
  | [], _ => rfl
  | d :: ds, h => by
    have ih := compS_map (ifs := ifs) (elt := elt) (ρ := ρ) (s := s) (own := own) (tg := tg) (fn := fn) f g fun x hx => h x (List.mem_cons_of_mem d hx)
    obtain ⟨ρ', e, t, e2, e3⟩ := h d List.mem_cons_self
    unfold compS at ih ⊢
    rw [List.map_cons]
    simp only [compLoop, e, R.of_some, R.bind_ok, e2]
    cases t with
    | true =>
      simp only [if_true] at e3
      obtain ⟨y, e4, e5⟩ := e3
      simp only [if_true, e4, R.bind_ok, R.nox_ok, ih, List.filterMap_cons, e5]
    | false =>
      simp only [Bool.false_eq_true, if_false] at e3
      simp only [Bool.false_eq_true, if_false, R.nox_ok, R.bind_ok, ih, List.filterMap_cons, e3]
theorem str_plain (n : Nat) : ∀ ms : List Str, D.plains n (ms.map D.str) = true
  | [] => by simp [D.plains]
  | m :: ms => by simp [D.plains, D.plain, str_plain n ms]
theorem in_strs (m : Str) (ms : List Str) : dCmp .in_ (.str m) (.lst (ms.map .str)) = some (decide (m ∈ ms)) := by
  have e : ((ms.map D.str).any fun y => y.eqv (.str m)) = decide (m ∈ ms) := by
    induction ms with
    | nil => simp
    | cons z zs ih =>
      rw [List.map_cons, List.any_cons, ih]
      have : (D.str z).eqv (.str m) = decide (m = z) := by
        simp only [D.eqv]
        rw [Bool.eq_iff_iff, beq_iff_eq, decide_eq_true_eq]
        exact eq_comm
      rw [this]
      simp [List.mem_cons]
  unfold dCmp
  simp only [D.plain, str_plain, Bool.and_self, if_true, e]
def sumC (ms : List Str) (c : Str) (rows : List Row) : Int := ((rows.filter fun r => decide (r.m ∈ ms)).filterMap fun r => r.at c).sum
theorem dInts_of (ns : List Int) : dInts (ns.map .int) = some ns := by
  induction ns with
  | nil => rfl
  | cons n ns ih => simp [dInts, ih]
def cntC (ms : List Str) (c : Str) (rows : List Row) : Int := (((rows.filter fun r => decide (r.m ∈ ms)).filterMap fun r => r.at c).length : Nat)
def aggW (w : Str) (ms : List Str) (c : Str) (rows : List Row) : Int := if w = "sum" then sumC ms c rows else cntC ms c rows
theorem worthI {hd cs mark : Str} {xs : List D} {t : D} {i : Int} (S : Sto) : F_worth_for [.prg hd xs cs, .int i, .str mark, t] S = .ok (.int i) S := by
  simp only [evDef, startE, evSs, evEs, evO, evIf, evSrc, s_it1, s_it2, s_it3, e_lit, e_glob, e_var, e_pk, e_tup, e_lst, e_bin, e_star, e_neg, e_cmp, e_isN, e_chain, e_and, e_or, e_not, e_ite, e_idx, e_slice, e_fld, e_call, e_blt, e_isi, e_join, e_comp, e_dcomp, e_dic0, e_cidx, e_cell, e_cget, e_clen, e_ccat, v_asg, v_asgO, v_unp, v_par, v_setI, v_setK, v_aug, v_app, v_exp, v_ret, v_retO, v_retN, v_ite, v_for_, v_pass, v_never, v_frz, v_cset, immAt, pkAt, MP.setI, ownAt, lstOwn, dicOwn, MP.setO, List.map_cons, List.map_nil, List.length_cons, List.length_nil, List.cons_append, List.nil_append, List.getElem?_cons_zero, List.getElem?_cons_succ, R.of_some, R.of_none, R.bind_ok, RS.of_ok, RS.seq_nx, RS.seq_ret, nc0, nc1, nc2, nc3, nc4, nc5, nc6, nc7, nc8, nc9, s_bind, s_map, s_eqI, s_neI, s_eqS, s_neS, atI_0, atI_1, atI_2, atI_3, s_int1, s_int2, s_max, s_mod, s_ix1, s_ix2, s_len1, s_len2, s_list1, s_list2, s_list3, s_tup1, s_tup2, decide_true, decide_false, if_true, if_false, s_ge, s_lt, s_le, s_gt, s_truth, List.set_cons_zero, List.set_cons_succ, s_mul, Bool.or_true, s_add1, s_add3, s_add4, s_sub, s_fdiv, Bool.and_true, Bool.false_eq_true, List.replicate, Nat.reduceAdd, Nat.reduceSub, Int.reduceAdd, Int.reduceSub, Int.reduceMul, fnL, constF, newCell, R.bind_stuck, F_worth_for, b_worth_for, N_worth_for, isTys, List.any_cons, List.any_nil, isTy, dNot, Bool.or_false, Bool.not_false]
theorem fm_if {α β : Type} (p : α → Bool) (g : α → β) : ∀ xs : List α, xs.filterMap (fun x => if p x = true then some (g x) else none) = (xs.filter p).map g
  | [] => rfl
  | x :: xs => by
    have ih := fm_if p g xs
    cases h : p x <;> simp [List.filterMap_cons, List.filter_cons, h, ih]
theorem worth_agg {hd cs mark w c sc : Str} {bh : Bool} {xs : List D} {rows : List Row} (h1 : IsHeld hd) (h2 : IsMk mark) (h3 : sc = "all" ∨ sc = "same" ∨ sc = "ahead") (h4 : c = "x" ∨ c = "y") (h5 : w = "sum" ∨ w = "count") (S : Sto) : F_worth_for [.prg hd xs cs, .tup [.str w, .str c, .str sc, .bl bh], .str mark, .lst (rows.map Row.d)] S = .ok (.int (aggW w (mks hd mark sc bh) c rows)) S := by
  have e1 := marks_in (xs := xs) (cs := cs) (bh := bh) S h1 h2 h3
  have c1 : ∀ (a b d e f g : MP.Slot), compS (fnL [F_marks_in, F_entry_of]) [10] (.one 10) (some (.cmp .in_ (.idx (.var 10) (.lit (.int 0))) (.var 4))) (.call 1 [.var 10, .var 7]) [a, b, d, e, .imm (.lst ((mks hd mark sc bh).map .str)), f, g, .imm (.str c), .imm (.str sc), .imm (.bl bh), .no, .no] (rows.map Row.d) S = .ok (rows.filterMap fun r => if decide (r.m ∈ mks hd mark sc bh) then some (ent (r.at c)) else none) S := fun a b d e f g => by
    refine compS_map Row.d _ fun r hr => ⟨_, rfl, decide (r.m ∈ mks hd mark sc bh), ?_, ?_⟩
    · have := rd0 r
      simp only [evDef, startE, evSs, evEs, evO, evIf, evSrc, s_it1, s_it2, s_it3, e_lit, e_glob, e_var, e_pk, e_tup, e_lst, e_bin, e_star, e_neg, e_cmp, e_isN, e_chain, e_and, e_or, e_not, e_ite, e_idx, e_slice, e_fld, e_call, e_blt, e_isi, e_join, e_comp, e_dcomp, e_dic0, e_cidx, e_cell, e_cget, e_clen, e_ccat, v_asg, v_asgO, v_unp, v_par, v_setI, v_setK, v_aug, v_app, v_exp, v_ret, v_retO, v_retN, v_ite, v_for_, v_pass, v_never, v_frz, v_cset, immAt, pkAt, MP.setI, ownAt, lstOwn, dicOwn, MP.setO, List.map_cons, List.map_nil, List.length_cons, List.length_nil, List.cons_append, List.nil_append, List.getElem?_cons_zero, List.getElem?_cons_succ, R.of_some, R.of_none, R.bind_ok, RS.of_ok, RS.seq_nx, RS.seq_ret, nc0, nc1, nc2, nc3, nc4, nc5, nc6, nc7, nc8, nc9, s_bind, s_map, s_eqI, s_neI, s_eqS, s_neS, atI_0, atI_1, atI_2, atI_3, s_int1, s_int2, s_max, s_mod, s_ix1, s_ix2, s_len1, s_len2, s_list1, s_list2, s_list3, s_tup1, s_tup2, decide_true, decide_false, if_true, if_false, s_ge, s_lt, s_le, s_gt, s_truth, List.set_cons_zero, List.set_cons_succ, s_mul, Bool.or_true, s_add1, s_add3, s_add4, s_sub, s_fdiv, Bool.and_true, Bool.false_eq_true, List.replicate, Nat.reduceAdd, Nat.reduceSub, Int.reduceAdd, Int.reduceSub, Int.reduceMul, fnL, constF, newCell, R.bind_stuck, wipeE, this, in_strs]
    · have := entry_of (r := r) h4 S
      split
      · rename_i hh
        exact ⟨ent (r.at c), by simp only [evDef, startE, evSs, evEs, evO, evIf, evSrc, s_it1, s_it2, s_it3, e_lit, e_glob, e_var, e_pk, e_tup, e_lst, e_bin, e_star, e_neg, e_cmp, e_isN, e_chain, e_and, e_or, e_not, e_ite, e_idx, e_slice, e_fld, e_call, e_blt, e_isi, e_join, e_comp, e_dcomp, e_dic0, e_cidx, e_cell, e_cget, e_clen, e_ccat, v_asg, v_asgO, v_unp, v_par, v_setI, v_setK, v_aug, v_app, v_exp, v_ret, v_retO, v_retN, v_ite, v_for_, v_pass, v_never, v_frz, v_cset, immAt, pkAt, MP.setI, ownAt, lstOwn, dicOwn, MP.setO, List.map_cons, List.map_nil, List.length_cons, List.length_nil, List.cons_append, List.nil_append, List.getElem?_cons_zero, List.getElem?_cons_succ, R.of_some, R.of_none, R.bind_ok, RS.of_ok, RS.seq_nx, RS.seq_ret, nc0, nc1, nc2, nc3, nc4, nc5, nc6, nc7, nc8, nc9, s_bind, s_map, s_eqI, s_neI, s_eqS, s_neS, atI_0, atI_1, atI_2, atI_3, s_int1, s_int2, s_max, s_mod, s_ix1, s_ix2, s_len1, s_len2, s_list1, s_list2, s_list3, s_tup1, s_tup2, decide_true, decide_false, if_true, if_false, s_ge, s_lt, s_le, s_gt, s_truth, List.set_cons_zero, List.set_cons_succ, s_mul, Bool.or_true, s_add1, s_add3, s_add4, s_sub, s_fdiv, Bool.and_true, Bool.false_eq_true, List.replicate, Nat.reduceAdd, Nat.reduceSub, Int.reduceAdd, Int.reduceSub, Int.reduceMul, fnL, constF, newCell, R.bind_stuck, wipeE, this], rfl⟩
      · rename_i hh
        rfl
  have f1 := fm_if (fun r : Row => decide (r.m ∈ mks hd mark sc bh)) (fun r => ent (r.at c)) rows
  have c2 : ∀ (a b d e f g h i j k : MP.Slot) (es : List Row), compS (fnL [F_marks_in, F_entry_of]) [11] (.one 11) (some (.isN true (.var 11))) (.var 11) [a, b, d, e, f, g, h, i, j, k, .no, .no] (es.map fun r => ent (r.at c)) S = .ok (es.filterMap fun r => (r.at c).map D.int) S := fun a b d e f g h i j k es => by
    refine compS_map (fun r : Row => ent (r.at c)) _ fun r hr => ⟨_, rfl, (r.at c).isSome, ?_, ?_⟩
    · cases q : r.at c <;> simp only [evDef, startE, evSs, evEs, evO, evIf, evSrc, s_it1, s_it2, s_it3, e_lit, e_glob, e_var, e_pk, e_tup, e_lst, e_bin, e_star, e_neg, e_cmp, e_isN, e_chain, e_and, e_or, e_not, e_ite, e_idx, e_slice, e_fld, e_call, e_blt, e_isi, e_join, e_comp, e_dcomp, e_dic0, e_cidx, e_cell, e_cget, e_clen, e_ccat, v_asg, v_asgO, v_unp, v_par, v_setI, v_setK, v_aug, v_app, v_exp, v_ret, v_retO, v_retN, v_ite, v_for_, v_pass, v_never, v_frz, v_cset, immAt, pkAt, MP.setI, ownAt, lstOwn, dicOwn, MP.setO, List.map_cons, List.map_nil, List.length_cons, List.length_nil, List.cons_append, List.nil_append, List.getElem?_cons_zero, List.getElem?_cons_succ, R.of_some, R.of_none, R.bind_ok, RS.of_ok, RS.seq_nx, RS.seq_ret, nc0, nc1, nc2, nc3, nc4, nc5, nc6, nc7, nc8, nc9, s_bind, s_map, s_eqI, s_neI, s_eqS, s_neS, atI_0, atI_1, atI_2, atI_3, s_int1, s_int2, s_max, s_mod, s_ix1, s_ix2, s_len1, s_len2, s_list1, s_list2, s_list3, s_tup1, s_tup2, decide_true, decide_false, if_true, if_false, s_ge, s_lt, s_le, s_gt, s_truth, List.set_cons_zero, List.set_cons_succ, s_mul, Bool.or_true, s_add1, s_add3, s_add4, s_sub, s_fdiv, Bool.and_true, Bool.false_eq_true, List.replicate, Nat.reduceAdd, Nat.reduceSub, Int.reduceAdd, Int.reduceSub, Int.reduceMul, fnL, constF, newCell, R.bind_stuck, wipeE, ent, isNb, Option.isSome, Bool.not_true, Bool.not_false]
    · cases q : r.at c with
      | none => simp
      | some v => simp only [Option.isSome, if_true]; exact ⟨.int v, rfl, rfl⟩
  have f2 : ∀ es : List Row, (es.filterMap fun r => (r.at c).map D.int) = (es.filterMap fun r => r.at c).map D.int := fun es => by
    induction es with
    | nil => rfl
    | cons r rs ih =>
      rw [List.filterMap_cons, List.filterMap_cons]
      cases q : r.at c with
      | none => simpa using ih
      | some v => simp only [Option.map_some, List.map_cons, ih]
  rw [f1] at c1
  have sm : ∀ ns : List Int, dBlt .sum [.lst (ns.map .int)] = some (.int ns.sum) := fun ns => by show (dInts _).map _ = _; rw [dInts_of]; rfl
  have ln : ∀ ns : List Int, dBlt .len [.lst (ns.map .int)] = some (.int (ns.length : Nat)) := fun ns => by show some (D.int ((ns.map D.int).length : Nat)) = _; rw [List.length_map]
  rcases h5 with rfl | rfl
  · simp only [evDef, startE, evSs, evEs, evO, evIf, evSrc, s_it1, s_it2, s_it3, e_lit, e_glob, e_var, e_pk, e_tup, e_lst, e_bin, e_star, e_neg, e_cmp, e_isN, e_chain, e_and, e_or, e_not, e_ite, e_idx, e_slice, e_fld, e_call, e_blt, e_isi, e_join, e_comp, e_dcomp, e_dic0, e_cidx, e_cell, e_cget, e_clen, e_ccat, v_asg, v_asgO, v_unp, v_par, v_setI, v_setK, v_aug, v_app, v_exp, v_ret, v_retO, v_retN, v_ite, v_for_, v_pass, v_never, v_frz, v_cset, immAt, pkAt, MP.setI, ownAt, lstOwn, dicOwn, MP.setO, List.map_cons, List.map_nil, List.length_cons, List.length_nil, List.cons_append, List.nil_append, List.getElem?_cons_zero, List.getElem?_cons_succ, R.of_some, R.of_none, R.bind_ok, RS.of_ok, RS.seq_nx, RS.seq_ret, nc0, nc1, nc2, nc3, nc4, nc5, nc6, nc7, nc8, nc9, s_bind, s_map, s_eqI, s_neI, s_eqS, s_neS, atI_0, atI_1, atI_2, atI_3, s_int1, s_int2, s_max, s_mod, s_ix1, s_ix2, s_len1, s_len2, s_list1, s_list2, s_list3, s_tup1, s_tup2, decide_true, decide_false, if_true, if_false, s_ge, s_lt, s_le, s_gt, s_truth, List.set_cons_zero, List.set_cons_succ, s_mul, Bool.or_true, s_add1, s_add3, s_add4, s_sub, s_fdiv, Bool.and_true, Bool.false_eq_true, List.replicate, Nat.reduceAdd, Nat.reduceSub, Int.reduceAdd, Int.reduceSub, Int.reduceMul, fnL, constF, newCell, R.bind_stuck, F_worth_for, b_worth_for, N_worth_for, isTys, List.any_cons, List.any_nil, isTy, dNot, Bool.or_false, Bool.not_true, bindTg, setAll, e1, c1, c2, f2, sm, sumC, aggW]
  · simp only [evDef, startE, evSs, evEs, evO, evIf, evSrc, s_it1, s_it2, s_it3, e_lit, e_glob, e_var, e_pk, e_tup, e_lst, e_bin, e_star, e_neg, e_cmp, e_isN, e_chain, e_and, e_or, e_not, e_ite, e_idx, e_slice, e_fld, e_call, e_blt, e_isi, e_join, e_comp, e_dcomp, e_dic0, e_cidx, e_cell, e_cget, e_clen, e_ccat, v_asg, v_asgO, v_unp, v_par, v_setI, v_setK, v_aug, v_app, v_exp, v_ret, v_retO, v_retN, v_ite, v_for_, v_pass, v_never, v_frz, v_cset, immAt, pkAt, MP.setI, ownAt, lstOwn, dicOwn, MP.setO, List.map_cons, List.map_nil, List.length_cons, List.length_nil, List.cons_append, List.nil_append, List.getElem?_cons_zero, List.getElem?_cons_succ, R.of_some, R.of_none, R.bind_ok, RS.of_ok, RS.seq_nx, RS.seq_ret, nc0, nc1, nc2, nc3, nc4, nc5, nc6, nc7, nc8, nc9, s_bind, s_map, s_eqI, s_neI, s_eqS, s_neS, atI_0, atI_1, atI_2, atI_3, s_int1, s_int2, s_max, s_mod, s_ix1, s_ix2, s_list1, s_list2, s_list3, s_tup1, s_tup2, decide_true, decide_false, if_true, if_false, s_ge, s_lt, s_le, s_gt, s_truth, List.set_cons_zero, List.set_cons_succ, s_mul, Bool.or_true, s_add1, s_add3, s_add4, s_sub, s_fdiv, Bool.and_true, Bool.false_eq_true, List.replicate, Nat.reduceAdd, Nat.reduceSub, Int.reduceAdd, Int.reduceSub, Int.reduceMul, fnL, constF, newCell, R.bind_stuck, F_worth_for, b_worth_for, N_worth_for, isTys, List.any_cons, List.any_nil, isTy, dNot, Bool.or_false, Bool.not_true, bindTg, setAll, e1, c1, c2, f2, ln, cntC, aggW, (by decide : ¬ ("count" : Str) = "sum")]
def wth (hd m : Str) (u : D) (rows : List Row) : Int := match u with
  | .int i => i
  | .tup [.str w, .str c, .str sc, .bl bh] => aggW w (mks hd m sc bh) c rows
  | _ => 0
theorem worth_for_ok {hd cs mark : Str} {xs : List D} {u : D} {rows : List Row} (h1 : IsHeld hd) (h2 : IsMk mark) (h : IsW u) (S : Sto) : F_worth_for [.prg hd xs cs, u, .str mark, .lst (rows.map Row.d)] S = .ok (.int (wth hd mark u rows)) S := by
  cases h with
  | int a b => exact worthI S
  | tup a b c => exact worth_agg h1 h2 c b a S
end PG

namespace PG
open PySem MP
def addE (a b : Option Int) : Option Int := match a, b with | some i, some j => some (i + j) | _, _ => none
/-- what a step does -/
def stepF (hd : Str) (d : D) (rows : List Row) : List Row := match d with
  | .tup [.str w, .str c, u] => if w = "add" then (match u with | .str e => rows.map fun r => r.put c (addE (r.at c) (r.at e)) | _ => rows) else rows.map fun r => r.put c (chg w (wth hd r.m u rows) (r.at c))
  | _ => rows
def stepsF (hd : Str) (ds : List D) (rows : List Row) : List Row := ds.foldl (fun rs d => stepF hd d rs) rows
def Sm (rows : List Row) : Prop := ∀ r ∈ rows, ∀ c : Str, c = "x" ∨ c = "y" → ∀ i, r.at c = some i → small i = true
def SmOk (hd : Str) : List D → List Row → Prop
  | [], _ => True
  | d :: ds, rows => (isT d = true → Sm rows) ∧ SmOk hd ds (stepF hd d rows)
theorem stepF_add {hd c e : Str} (rows : List Row) : stepF hd (.tup [.str "add", .str c, .str e]) rows = rows.map fun r => r.put c (addE (r.at c) (r.at e)) := rfl
theorem stepF_w {hd w c : Str} {u : D} (hw : w = "fill" ∨ w = "less" ∨ w = "put" ∨ w = "times") (rows : List Row) : stepF hd (.tup [.str w, .str c, u]) rows = rows.map fun r => r.put c (chg w (wth hd r.m u rows) (r.at c)) := by
  rcases hw with rfl | rfl | rfl | rfl <;> rfl
abbrev fnS : Nat → FS := fnL [constF (.str "abc"), F_worth_for, F_with_entry, F_changed_entry]
theorem it_abc : items (.str "abc") = some [.str "a", .str "b", .str "c"] := rfl
theorem worths_ok {p t u w c : D} {n b : MP.Slot} {wa wb wc : Int} {S : Sto} (ha : F_worth_for [p, u, .str "a", t] S = .ok (.int wa) S) (hb : F_worth_for [p, u, .str "b", t] S = .ok (.int wb) S) (hc : F_worth_for [p, u, .str "c", t] S = .ok (.int wc) S) :
    dcompS fnS [6] (.one 6) (.var 6) (.call 1 [.var 0, .idx (.var 3) (.lit (.int 2)), .var 6, .var 1]) [.imm p, .imm t, n, .imm (.tup [w, c, u]), b, .no, .no] [.str "a", .str "b", .str "c"] S = .ok [(.str "a", .int wa), (.str "b", .int wb), (.str "c", .int wc)] S := by
  unfold dcompS
  simp only [dcompLoop, evDef, startE, evSs, evEs, evO, evIf, evSrc, s_it1, s_it2, s_it3, e_lit, e_glob, e_var, e_pk, e_tup, e_lst, e_bin, e_star, e_neg, e_cmp, e_isN, e_chain, e_and, e_or, e_not, e_ite, e_idx, e_slice, e_fld, e_call, e_blt, e_isi, e_join, e_comp, e_dcomp, e_dic0, e_cidx, e_cell, e_cget, e_clen, e_ccat, v_asg, v_asgO, v_unp, v_par, v_setI, v_setK, v_aug, v_app, v_exp, v_ret, v_retO, v_retN, v_ite, v_for_, v_pass, v_never, v_frz, v_cset, immAt, pkAt, MP.setI, ownAt, lstOwn, dicOwn, MP.setO, List.map_cons, List.map_nil, List.length_cons, List.length_nil, List.cons_append, List.nil_append, List.getElem?_cons_zero, List.getElem?_cons_succ, R.of_some, R.of_none, R.bind_ok, RS.of_ok, RS.seq_nx, RS.seq_ret, nc0, nc1, nc2, nc3, nc4, nc5, nc6, nc7, nc8, nc9, s_bind, s_map, s_eqI, s_neI, s_eqS, s_neS, atI_0, atI_1, atI_2, atI_3, s_int1, s_int2, s_max, s_mod, s_ix1, s_ix2, s_len1, s_len2, s_list1, s_list2, s_list3, s_tup1, s_tup2, decide_true, decide_false, if_true, if_false, s_ge, s_lt, s_le, s_gt, s_truth, List.set_cons_zero, List.set_cons_succ, s_mul, Bool.or_true, s_add1, s_add3, s_add4, s_sub, s_fdiv, Bool.and_true, Bool.false_eq_true, List.replicate, Nat.reduceAdd, Nat.reduceSub, Int.reduceAdd, Int.reduceSub, Int.reduceMul, fnL, constF, newCell, R.bind_stuck, bindTg, wipeE, ha, hb, hc, R.nox_ok]
  rfl
theorem put_m (r : Row) (c : Str) (e : Option Int) : (r.put c e).m = r.m := by unfold Row.put; split <;> rfl
theorem stepF_mk {hd : Str} {d : D} {rows : List Row} (h : IsSt d) (hr : ∀ r ∈ rows, IsMk r.m) : ∀ r ∈ stepF hd d rows, IsMk r.m := by
  intro r h2
  cases h with
  | add a b => rw [stepF_add] at h2; obtain ⟨q, h3, rfl⟩ := List.mem_map.mp h2; rw [put_m]; exact hr q h3
  | put a b c => rw [stepF_w a] at h2; obtain ⟨q, h3, rfl⟩ := List.mem_map.mp h2; rw [put_m]; exact hr q h3
theorem stepF_len {hd : Str} {d : D} {rows : List Row} (h : IsSt d) : (stepF hd d rows).length = rows.length := by
  cases h with
  | add a b => rw [stepF_add]; simp
  | put a b c => rw [stepF_w a]; simp
theorem rows_comp {p u w c : D} {n : MP.Slot} {cc : Str} {kv : D} {S : Sto} {rows : List Row} {g : Row → Option Int} {t : D} (hc : cc = "x" ∨ cc = "y") (hcc : c = .str cc) (h : ∀ r ∈ rows, F_changed_entry [.tup [w, c, u], r.d, kv] S = .ok (ent (g r)) S) :
    compS fnS [5] (.one 5) none (.call 2 [.var 5, .idx (.var 3) (.lit (.int 1)), .call 3 [.var 3, .var 5, .var 4]]) [.imm p, .imm t, n, .imm (.tup [w, c, u]), .imm kv, .no, .no] (rows.map Row.d) S = .ok (rows.filterMap fun r => some (r.put cc (g r)).d) S := by
  subst hcc
  refine compS_map Row.d _ fun r hr => ⟨_, rfl, true, rfl, ?_⟩
  have e1 := h r hr
  have e2 := with_entry (r := r) (e := g r) hc S
  exact ⟨(r.put cc (g r)).d, by simp only [evDef, startE, evSs, evEs, evO, evIf, evSrc, s_it1, s_it2, s_it3, e_lit, e_glob, e_var, e_pk, e_tup, e_lst, e_bin, e_star, e_neg, e_cmp, e_isN, e_chain, e_and, e_or, e_not, e_ite, e_idx, e_slice, e_fld, e_call, e_blt, e_isi, e_join, e_comp, e_dcomp, e_dic0, e_cidx, e_cell, e_cget, e_clen, e_ccat, v_asg, v_asgO, v_unp, v_par, v_setI, v_setK, v_aug, v_app, v_exp, v_ret, v_retO, v_retN, v_ite, v_for_, v_pass, v_never, v_frz, v_cset, immAt, pkAt, MP.setI, ownAt, lstOwn, dicOwn, MP.setO, List.map_cons, List.map_nil, List.length_cons, List.length_nil, List.cons_append, List.nil_append, List.getElem?_cons_zero, List.getElem?_cons_succ, R.of_some, R.of_none, R.bind_ok, RS.of_ok, RS.seq_nx, RS.seq_ret, nc0, nc1, nc2, nc3, nc4, nc5, nc6, nc7, nc8, nc9, s_bind, s_map, s_eqI, s_neI, s_eqS, s_neS, atI_0, atI_1, atI_2, atI_3, s_int1, s_int2, s_max, s_mod, s_ix1, s_ix2, s_len1, s_len2, s_list1, s_list2, s_list3, s_tup1, s_tup2, decide_true, decide_false, if_true, if_false, s_ge, s_lt, s_le, s_gt, s_truth, List.set_cons_zero, List.set_cons_succ, s_mul, Bool.or_true, s_add1, s_add3, s_add4, s_sub, s_fdiv, Bool.and_true, Bool.false_eq_true, List.replicate, Nat.reduceAdd, Nat.reduceSub, Int.reduceAdd, Int.reduceSub, Int.reduceMul, fnL, constF, newCell, R.bind_stuck, wipeE, e1, e2], rfl⟩
theorem fm_some {α β : Type} (f : α → β) : ∀ xs : List α, xs.filterMap (fun x => some (f x)) = xs.map f
  | [] => rfl
  | x :: xs => by simp [fm_some f xs]
theorem cut_take (xs : List D) (n : Nat) : cut xs none (some (n : Int)) = xs.take n := by
  unfold cut
  rw [HT.sIx_nat]
  simp [HT.sIx_none]
theorem stepped_ok {hd cs : Str} {xs : List D} {rows : List Row} {n : Nat} (h1 : IsHeld hd) (hp : ∀ d ∈ xs, IsSt d) (hsm : SmOk hd (xs.take n) rows) (hr : ∀ r ∈ rows, IsMk r.m) (S : Sto) :
    F_stepped [.prg hd xs cs, .lst (rows.map Row.d), .int n] S = .ok (.lst ((stepsF hd (xs.take n) rows).map Row.d)) S := by
  have run : Rs (F_stepped [.prg hd xs cs, .lst (rows.map Row.d), .int n] S) fun d S' => d = .lst ((stepsF hd (xs.take n) rows).map Row.d) ∧ S' = S := by
    refine def_run ?_
    have c0 : dSlice (.tup xs) none (some (n : Int)) = some (.tup (xs.take n)) := by rw [sl_t, cut_take]
    have f0 : dFld .rows (.prg hd xs cs) = some (.tup xs) := rfl
    simp only [evDef, startE, evSs, evEs, evO, evIf, evSrc, s_it1, s_it2, s_it3, e_lit, e_glob, e_var, e_pk, e_tup, e_lst, e_bin, e_star, e_neg, e_cmp, e_isN, e_chain, e_and, e_or, e_not, e_ite, e_idx, e_slice, e_fld, e_call, e_blt, e_isi, e_join, e_comp, e_dcomp, e_dic0, e_cidx, e_cell, e_cget, e_clen, e_ccat, v_asg, v_asgO, v_unp, v_par, v_setI, v_setK, v_aug, v_app, v_exp, v_ret, v_retO, v_retN, v_ite, v_for_, v_pass, v_never, v_frz, v_cset, immAt, pkAt, MP.setI, ownAt, lstOwn, dicOwn, MP.setO, List.map_cons, List.map_nil, List.length_cons, List.length_nil, List.cons_append, List.nil_append, List.getElem?_cons_zero, List.getElem?_cons_succ, R.of_some, R.of_none, R.bind_ok, RS.of_ok, RS.seq_nx, RS.seq_ret, nc0, nc1, nc2, nc3, nc4, nc5, nc6, nc7, nc8, nc9, s_bind, s_map, s_eqI, s_neI, s_eqS, s_neS, atI_0, atI_1, atI_2, atI_3, s_int1, s_int2, s_max, s_mod, s_ix1, s_ix2, s_len1, s_len2, s_list1, s_list2, s_list3, s_tup1, s_tup2, decide_true, decide_false, if_true, if_false, s_ge, s_lt, s_le, s_gt, s_truth, List.set_cons_zero, List.set_cons_succ, s_mul, Bool.or_true, s_add1, s_add3, s_add4, s_sub, s_fdiv, Bool.and_true, Bool.false_eq_true, List.replicate, Nat.reduceAdd, Nat.reduceSub, Int.reduceAdd, Int.reduceSub, Int.reduceMul, fnL, constF, newCell, R.bind_stuck, b_stepped, N_stepped, f0, asInt, c0]
    have hp' : ∀ d ∈ xs.take n, IsSt d := fun d hd => hp d (List.mem_of_mem_take hd)
    refine Rt.seq (forS_run (fun ds ρ s => ∃ rs a b, (∀ d ∈ ds, IsSt d) ∧ SmOk hd ds rs ∧ ρ = [.imm (.prg hd xs cs), .imm (.lst (rs.map Row.d)), .imm (.int n), a, b, .no, .no] ∧ (∀ r ∈ rs, IsMk r.m) ∧ stepsF hd ds rs = stepsF hd (xs.take n) rows ∧ s = S) ?_ ⟨rows, _, _, hp', hsm, rfl, hr, rfl, rfl⟩) ?_
    · rintro d ds ρ s ⟨rs, a, b, q, qs, rfl, hm, e, rfl⟩
      have q1 := q d List.mem_cons_self
      refine ⟨_, rfl, ?_⟩
      have hm' := stepF_mk (hd := hd) q1 hm
      have fin : ∀ (a b : MP.Slot) (t : List D), t = (stepF hd d rs).map Row.d → Rt (RS.nx [.imm (.prg hd xs cs), .imm (.lst t), .imm (.int n), a, b, .no, .no] s) (fun ρ s' => ∃ rs a b, (∀ d ∈ ds, IsSt d) ∧ SmOk hd ds rs ∧ ρ = [.imm (.prg hd xs cs), .imm (.lst (rs.map Row.d)), .imm (.int n), a, b, .no, .no] ∧ (∀ r ∈ rs, IsMk r.m) ∧ stepsF hd ds rs = stepsF hd (xs.take n) rows ∧ s' = s) (fun d S' => d = .lst ((stepsF hd (xs.take n) rows).map Row.d) ∧ S' = s) := fun a b t ht => by
        subst ht
        exact Rt.nx ⟨stepF hd d rs, a, b, fun d hd => q d (List.mem_cons_of_mem _ hd), qs.2, rfl, hm', e, rfl⟩
      cases q1 with
      | @add c e2 hc he =>
        have k := rows_comp (p := .prg hd xs cs) (u := .str e2) (w := .str "add") (n := .imm (.int n)) (kv := .dic []) (S := s) (rows := rs) (t := .lst (rs.map Row.d)) (g := fun r => addE (r.at c) (r.at e2)) hc rfl fun r _ => changed_add hc he s
        simp only [evDef, startE, evSs, evEs, evO, evIf, evSrc, s_it1, s_it2, s_it3, e_lit, e_glob, e_var, e_pk, e_tup, e_lst, e_bin, e_star, e_neg, e_cmp, e_isN, e_chain, e_and, e_or, e_not, e_ite, e_idx, e_slice, e_fld, e_call, e_blt, e_isi, e_join, e_comp, e_dcomp, e_dic0, e_cidx, e_cell, e_cget, e_clen, e_ccat, v_asg, v_asgO, v_unp, v_par, v_setI, v_setK, v_aug, v_app, v_exp, v_ret, v_retO, v_retN, v_ite, v_for_, v_pass, v_never, v_frz, v_cset, immAt, pkAt, MP.setI, ownAt, lstOwn, dicOwn, MP.setO, List.map_cons, List.map_nil, List.length_cons, List.length_nil, List.cons_append, List.nil_append, List.getElem?_cons_zero, List.getElem?_cons_succ, R.of_some, R.of_none, R.bind_ok, RS.of_ok, RS.seq_nx, RS.seq_ret, nc0, nc1, nc2, nc3, nc4, nc5, nc6, nc7, nc8, nc9, s_bind, s_map, s_eqI, s_neI, s_eqS, s_neS, atI_0, atI_1, atI_2, atI_3, s_int1, s_int2, s_max, s_mod, s_ix1, s_ix2, s_len1, s_len2, s_list1, s_list2, s_list3, s_tup1, s_tup2, decide_true, decide_false, if_true, if_false, s_ge, s_lt, s_le, s_gt, s_truth, List.set_cons_zero, List.set_cons_succ, s_mul, Bool.or_true, s_add1, s_add3, s_add4, s_sub, s_fdiv, Bool.and_true, Bool.false_eq_true, List.replicate, Nat.reduceAdd, Nat.reduceSub, Int.reduceAdd, Int.reduceSub, Int.reduceMul, fnL, constF, newCell, R.bind_stuck, k, Bool.not_true]
        exact fin _ _ _ (by rw [fm_some, stepF_add, List.map_map]; rfl)
      | @put w c u hw hc hu =>
        have z : ∀ m, IsMk m → F_worth_for [.prg hd xs cs, u, .str m, .lst (rs.map Row.d)] s = .ok (.int (wth hd m u rs)) s := fun m hm => worth_for_ok h1 hm hu s
        have wk := worths_ok (w := .str w) (c := .str c) (n := .imm (.int n)) (b := .imm (.dic [])) (z "a" (by simp [IsMk])) (z "b" (by simp [IsMk])) (z "c" (by simp [IsMk]))
        have k := rows_comp (p := .prg hd xs cs) (u := u) (w := .str w) (n := .imm (.int n)) (kv := .dic [(.str "a", .int (wth hd "a" u rs)), (.str "b", .int (wth hd "b" u rs)), (.str "c", .int (wth hd "c" u rs))]) (S := s) (rows := rs) (t := .lst (rs.map Row.d)) (g := fun r => chg w (wth hd r.m u rs) (r.at c)) hc rfl fun r hr => by
          have := changed_w (u := u) (wa := wth hd "a" u rs) (wb := wth hd "b" u rs) (wc := wth hd "c" u rs) hw hc (hm r hr) (fun ht => (qs.1 (by rw [ht]; rfl)) r hr c hc) s
          have e0 : wv (wth hd "a" u rs) (wth hd "b" u rs) (wth hd "c" u rs) r.m = wth hd r.m u rs := by
            rcases hm r hr with e | e | e <;> rw [e] <;> rfl
          rw [e0] at this
          exact this
        have nw : ¬ w = "add" := by rcases hw with rfl | rfl | rfl | rfl <;> decide
        simp only [evDef, startE, evSs, evEs, evO, evIf, evSrc, s_it1, s_it2, s_it3, e_lit, e_glob, e_var, e_pk, e_tup, e_lst, e_bin, e_star, e_neg, e_cmp, e_isN, e_chain, e_and, e_or, e_not, e_ite, e_idx, e_slice, e_fld, e_call, e_blt, e_isi, e_join, e_comp, e_dcomp, e_dic0, e_cidx, e_cell, e_cget, e_clen, e_ccat, v_asg, v_asgO, v_unp, v_par, v_setI, v_setK, v_aug, v_app, v_exp, v_ret, v_retO, v_retN, v_ite, v_for_, v_pass, v_never, v_frz, v_cset, immAt, pkAt, MP.setI, ownAt, lstOwn, dicOwn, MP.setO, List.map_cons, List.map_nil, List.length_cons, List.length_nil, List.cons_append, List.nil_append, List.getElem?_cons_zero, List.getElem?_cons_succ, R.of_some, R.of_none, R.bind_ok, RS.of_ok, RS.seq_nx, RS.seq_ret, nc0, nc1, nc2, nc3, nc4, nc5, nc6, nc7, nc8, nc9, s_bind, s_map, s_eqI, s_neI, s_eqS, s_neS, atI_0, atI_1, atI_2, atI_3, s_int1, s_int2, s_max, s_mod, s_ix1, s_ix2, s_len1, s_len2, s_list1, s_list2, s_list3, s_tup1, s_tup2, decide_true, decide_false, if_true, if_false, s_ge, s_lt, s_le, s_gt, s_truth, List.set_cons_zero, List.set_cons_succ, s_mul, Bool.or_true, s_add1, s_add3, s_add4, s_sub, s_fdiv, Bool.and_true, Bool.false_eq_true, List.replicate, Nat.reduceAdd, Nat.reduceSub, Int.reduceAdd, Int.reduceSub, Int.reduceMul, fnL, constF, newCell, R.bind_stuck, k, wk, nw, it_abc, Bool.not_false]
        exact fin _ _ _ (by rw [fm_some, stepF_w hw, List.map_map]; rfl)
    · rintro ρ s ⟨rs, a, b, q, qs, rfl, hm, e, rfl⟩
      simp only [evDef, startE, evSs, evEs, evO, evIf, evSrc, s_it1, s_it2, s_it3, e_lit, e_glob, e_var, e_pk, e_tup, e_lst, e_bin, e_star, e_neg, e_cmp, e_isN, e_chain, e_and, e_or, e_not, e_ite, e_idx, e_slice, e_fld, e_call, e_blt, e_isi, e_join, e_comp, e_dcomp, e_dic0, e_cidx, e_cell, e_cget, e_clen, e_ccat, v_asg, v_asgO, v_unp, v_par, v_setI, v_setK, v_aug, v_app, v_exp, v_ret, v_retO, v_retN, v_ite, v_for_, v_pass, v_never, v_frz, v_cset, immAt, pkAt, MP.setI, ownAt, lstOwn, dicOwn, MP.setO, List.map_cons, List.map_nil, List.length_cons, List.length_nil, List.cons_append, List.nil_append, List.getElem?_cons_zero, List.getElem?_cons_succ, R.of_some, R.of_none, R.bind_ok, RS.of_ok, RS.seq_nx, RS.seq_ret, nc0, nc1, nc2, nc3, nc4, nc5, nc6, nc7, nc8, nc9, s_bind, s_map, s_eqI, s_neI, s_eqS, s_neS, atI_0, atI_1, atI_2, atI_3, s_int1, s_int2, s_max, s_mod, s_ix1, s_ix2, s_len1, s_len2, s_list1, s_list2, s_list3, s_tup1, s_tup2, decide_true, decide_false, if_true, if_false, s_ge, s_lt, s_le, s_gt, s_truth, List.set_cons_zero, List.set_cons_succ, s_mul, Bool.or_true, s_add1, s_add3, s_add4, s_sub, s_fdiv, Bool.and_true, Bool.false_eq_true, List.replicate, Nat.reduceAdd, Nat.reduceSub, Int.reduceAdd, Int.reduceSub, Int.reduceMul, fnL, constF, newCell, R.bind_stuck]
      exact Rt.ret ⟨by rw [← e]; rfl, rfl⟩
  obtain ⟨d, S', e, rfl, rfl⟩ := run
  exact e
theorem mark_ok {m : Str} (h : IsMk m) (S : Sto) : F_is_mark [.str m] S = .ok (.bl true) S := by
  rcases h with rfl | rfl | rfl <;> kernel_rfl
theorem anyint_ok (i : Int) (S : Sto) : F_is_integer [.int i, .non, .non] S = .ok (.bl true) S := by
  simp only [evDef, startE, evSs, evEs, evO, evIf, evSrc, s_it1, s_it2, s_it3, e_lit, e_glob, e_var, e_pk, e_tup, e_lst, e_bin, e_star, e_neg, e_cmp, e_isN, e_chain, e_and, e_or, e_not, e_ite, e_idx, e_slice, e_fld, e_call, e_blt, e_isi, e_join, e_comp, e_dcomp, e_dic0, e_cidx, e_cell, e_cget, e_clen, e_ccat, v_asg, v_asgO, v_unp, v_par, v_setI, v_setK, v_aug, v_app, v_exp, v_ret, v_retO, v_retN, v_ite, v_for_, v_pass, v_never, v_frz, v_cset, immAt, pkAt, MP.setI, ownAt, lstOwn, dicOwn, MP.setO, List.map_cons, List.map_nil, List.length_cons, List.length_nil, List.cons_append, List.nil_append, List.getElem?_cons_zero, List.getElem?_cons_succ, R.of_some, R.of_none, R.bind_ok, RS.of_ok, RS.seq_nx, RS.seq_ret, nc0, nc1, nc2, nc3, nc4, nc5, nc6, nc7, nc8, nc9, s_bind, s_map, s_eqI, s_neI, s_eqS, s_neS, atI_0, atI_1, atI_2, atI_3, s_int1, s_int2, s_max, s_mod, s_ix1, s_ix2, s_len1, s_len2, s_list1, s_list2, s_list3, s_tup1, s_tup2, decide_true, decide_false, if_true, if_false, s_ge, s_lt, s_le, s_gt, s_truth, List.set_cons_zero, List.set_cons_succ, s_mul, Bool.or_true, s_add1, s_add3, s_add4, s_sub, s_fdiv, Bool.and_true, Bool.false_eq_true, List.replicate, Nat.reduceAdd, Nat.reduceSub, Int.reduceAdd, Int.reduceSub, Int.reduceMul, fnL, constF, newCell, R.bind_stuck, F_is_integer, b_is_integer, N_is_integer, isTys, List.any_cons, List.any_nil, isTy, dNot, Bool.or_false, Bool.not_true, isNb, Bool.not_false]
theorem row_ok {r : Row} (h : IsMk r.m) (S : Sto) : F_is_row [r.d] S = .ok (.bl true) S := by
  have e1 := mark_ok h S
  have key : ∀ (a : MP.Slot), compS (fnL [F_is_mark, F_is_integer]) [1] (.one 1) none (.or (.isN false (.var 1)) (.call 1 [.var 1, .lit (.non), .lit (.non)])) [a, .no] [ent r.x, ent r.y] S = .ok [.bl true, .bl true] S := fun a => by
    unfold compS
    cases r.x <;> cases r.y <;> simp only [compLoop, evDef, startE, evSs, evEs, evO, evIf, evSrc, s_it1, s_it2, s_it3, e_lit, e_glob, e_var, e_pk, e_tup, e_lst, e_bin, e_star, e_neg, e_cmp, e_isN, e_chain, e_and, e_or, e_not, e_ite, e_idx, e_slice, e_fld, e_call, e_blt, e_isi, e_join, e_comp, e_dcomp, e_dic0, e_cidx, e_cell, e_cget, e_clen, e_ccat, v_asg, v_asgO, v_unp, v_par, v_setI, v_setK, v_aug, v_app, v_exp, v_ret, v_retO, v_retN, v_ite, v_for_, v_pass, v_never, v_frz, v_cset, immAt, pkAt, MP.setI, ownAt, lstOwn, dicOwn, MP.setO, List.map_cons, List.map_nil, List.length_cons, List.length_nil, List.cons_append, List.nil_append, List.getElem?_cons_zero, List.getElem?_cons_succ, R.of_some, R.of_none, R.bind_ok, RS.of_ok, RS.seq_nx, RS.seq_ret, nc0, nc1, nc2, nc3, nc4, nc5, nc6, nc7, nc8, nc9, s_bind, s_map, s_eqI, s_neI, s_eqS, s_neS, atI_0, atI_1, atI_2, atI_3, s_int1, s_int2, s_max, s_mod, s_ix1, s_ix2, s_len1, s_len2, s_list1, s_list2, s_list3, s_tup1, s_tup2, decide_true, decide_false, if_true, if_false, s_ge, s_lt, s_le, s_gt, s_truth, List.set_cons_zero, List.set_cons_succ, s_mul, Bool.or_true, s_add1, s_add3, s_add4, s_sub, s_fdiv, Bool.and_true, Bool.false_eq_true, List.replicate, Nat.reduceAdd, Nat.reduceSub, Int.reduceAdd, Int.reduceSub, Int.reduceMul, fnL, constF, newCell, R.bind_stuck, bindTg, wipeE, ent, isNb, anyint_ok, R.nox_ok, Bool.not_true, Bool.not_false]
  have al : dBlt .all [.lst [.bl true, .bl true]] = some (.bl true) := rfl
  simp only [evDef, startE, evSs, evEs, evO, evIf, evSrc, s_it1, s_it2, s_it3, e_lit, e_glob, e_var, e_pk, e_tup, e_lst, e_bin, e_star, e_neg, e_cmp, e_isN, e_chain, e_and, e_or, e_not, e_ite, e_idx, e_slice, e_fld, e_call, e_blt, e_isi, e_join, e_comp, e_dcomp, e_dic0, e_cidx, e_cell, e_cget, e_clen, e_ccat, v_asg, v_asgO, v_unp, v_par, v_setI, v_setK, v_aug, v_app, v_exp, v_ret, v_retO, v_retN, v_ite, v_for_, v_pass, v_never, v_frz, v_cset, immAt, pkAt, MP.setI, ownAt, lstOwn, dicOwn, MP.setO, List.map_cons, List.map_nil, List.length_cons, List.length_nil, List.cons_append, List.nil_append, List.getElem?_cons_zero, List.getElem?_cons_succ, R.of_some, R.of_none, R.bind_ok, RS.of_ok, RS.seq_nx, RS.seq_ret, nc0, nc1, nc2, nc3, nc4, nc5, nc6, nc7, nc8, nc9, s_bind, s_map, s_eqI, s_neI, s_eqS, s_neS, atI_0, atI_1, atI_2, atI_3, s_int1, s_int2, s_max, s_mod, s_ix1, s_ix2, s_len1, s_len2, s_list1, s_list2, s_list3, s_tup1, s_tup2, decide_true, decide_false, if_true, if_false, s_ge, s_lt, s_le, s_gt, s_truth, List.set_cons_zero, List.set_cons_succ, s_mul, Bool.or_true, s_add1, s_add3, s_add4, s_sub, s_fdiv, Bool.and_true, Bool.false_eq_true, List.replicate, Nat.reduceAdd, Nat.reduceSub, Int.reduceAdd, Int.reduceSub, Int.reduceMul, fnL, constF, newCell, R.bind_stuck, F_is_row, b_is_row, N_is_row, Row.d, isTys, List.any_cons, List.any_nil, isTy, dNot, Bool.or_false, Bool.not_true, Bool.not_false, e1, sl_t, asInt, cut_e, key, al]
theorem check_ok {rows : List Row} (h : ∀ r ∈ rows, IsMk r.m) (S : Sto) : F_check_table [.lst (rows.map Row.d)] S = .ok .non S := by
  have run : Rs (F_check_table [.lst (rows.map Row.d)] S) fun d S' => d = .non ∧ S' = S := by
    refine def_run ?_
    simp only [evDef, startE, evSs, evEs, evO, evIf, evSrc, s_it1, s_it2, s_it3, e_lit, e_glob, e_var, e_pk, e_tup, e_lst, e_bin, e_star, e_neg, e_cmp, e_isN, e_chain, e_and, e_or, e_not, e_ite, e_idx, e_slice, e_fld, e_call, e_blt, e_isi, e_join, e_comp, e_dcomp, e_dic0, e_cidx, e_cell, e_cget, e_clen, e_ccat, v_asg, v_asgO, v_unp, v_par, v_setI, v_setK, v_aug, v_app, v_exp, v_ret, v_retO, v_retN, v_ite, v_for_, v_pass, v_never, v_frz, v_cset, immAt, pkAt, MP.setI, ownAt, lstOwn, dicOwn, MP.setO, List.map_cons, List.map_nil, List.length_cons, List.length_nil, List.cons_append, List.nil_append, List.getElem?_cons_zero, List.getElem?_cons_succ, R.of_some, R.of_none, R.bind_ok, RS.of_ok, RS.seq_nx, RS.seq_ret, nc0, nc1, nc2, nc3, nc4, nc5, nc6, nc7, nc8, nc9, s_bind, s_map, s_eqI, s_neI, s_eqS, s_neS, atI_0, atI_1, atI_2, atI_3, s_int1, s_int2, s_max, s_mod, s_ix1, s_ix2, s_len1, s_len2, s_list1, s_list2, s_list3, s_tup1, s_tup2, decide_true, decide_false, if_true, if_false, s_ge, s_lt, s_le, s_gt, s_truth, List.set_cons_zero, List.set_cons_succ, s_mul, Bool.or_true, s_add1, s_add3, s_add4, s_sub, s_fdiv, Bool.and_true, Bool.false_eq_true, List.replicate, Nat.reduceAdd, Nat.reduceSub, Int.reduceAdd, Int.reduceSub, Int.reduceMul, fnL, constF, newCell, R.bind_stuck, b_check_table, N_check_table, isTys, List.any_cons, List.any_nil, isTy, dNot, Bool.or_false, Bool.not_true, lstItems, seqItems]
    refine Rt.seq (forS_run (fun ds ρ s => ∃ (k : Nat) (ys : List Row) (a b : MP.Slot), ds = enumFrom' k (ys.map Row.d) ∧ ρ = [.imm (.lst (rows.map Row.d)), a, b] ∧ (∀ r ∈ ys, IsMk r.m) ∧ s = S) ?_ ⟨0, rows, _, _, rfl, rfl, h, rfl⟩) ?_
    · rintro d ds ρ s ⟨k, ys, a, b, e, rfl, hm, rfl⟩
      cases ys with
      | nil => cases e
      | cons y ys =>
        simp only [List.map_cons, enumFrom', List.cons.injEq] at e
        obtain ⟨rfl, rfl⟩ := e
        refine ⟨_, rfl, ?_⟩
        have e1 := row_ok (hm y List.mem_cons_self) s
        simp only [evDef, startE, evSs, evEs, evO, evIf, evSrc, s_it1, s_it2, s_it3, e_lit, e_glob, e_var, e_pk, e_tup, e_lst, e_bin, e_star, e_neg, e_cmp, e_isN, e_chain, e_and, e_or, e_not, e_ite, e_idx, e_slice, e_fld, e_call, e_blt, e_isi, e_join, e_comp, e_dcomp, e_dic0, e_cidx, e_cell, e_cget, e_clen, e_ccat, v_asg, v_asgO, v_unp, v_par, v_setI, v_setK, v_aug, v_app, v_exp, v_ret, v_retO, v_retN, v_ite, v_for_, v_pass, v_never, v_frz, v_cset, immAt, pkAt, MP.setI, ownAt, lstOwn, dicOwn, MP.setO, List.map_cons, List.map_nil, List.length_cons, List.length_nil, List.cons_append, List.nil_append, List.getElem?_cons_zero, List.getElem?_cons_succ, R.of_some, R.of_none, R.bind_ok, RS.of_ok, RS.seq_nx, RS.seq_ret, nc0, nc1, nc2, nc3, nc4, nc5, nc6, nc7, nc8, nc9, s_bind, s_map, s_eqI, s_neI, s_eqS, s_neS, atI_0, atI_1, atI_2, atI_3, s_int1, s_int2, s_max, s_mod, s_ix1, s_ix2, s_len1, s_len2, s_list1, s_list2, s_list3, s_tup1, s_tup2, decide_true, decide_false, if_true, if_false, s_ge, s_lt, s_le, s_gt, s_truth, List.set_cons_zero, List.set_cons_succ, s_mul, Bool.or_true, s_add1, s_add3, s_add4, s_sub, s_fdiv, Bool.and_true, Bool.false_eq_true, List.replicate, Nat.reduceAdd, Nat.reduceSub, Int.reduceAdd, Int.reduceSub, Int.reduceMul, fnL, constF, newCell, R.bind_stuck, setAll, e1, dNot, Bool.not_true]
        exact Rt.nx ⟨k + 1, ys, _, _, rfl, rfl, fun r hr => hm r (List.mem_cons_of_mem y hr), rfl⟩
    · rintro ρ s ⟨k, ys, a, b, e, rfl, hm, rfl⟩
      exact Rt.nx ⟨trivial, rfl⟩
  obtain ⟨d, S', e, rfl, rfl⟩ := run
  exact e
theorem done_ok {hd cs : Str} {xs : List D} {rows : List Row} (h1 : IsHeld hd) (hp : ∀ d ∈ xs, IsSt d) (hsm : SmOk hd xs rows) (hr : ∀ r ∈ rows, IsMk r.m) (S : Sto) :
    F_done [.prg hd xs cs, .lst (rows.map Row.d)] S = .ok (.lst ((stepsF hd xs rows).map Row.d)) S := by
  have e1 := check_ok hr S
  have e2 := stepped_ok (cs := cs) (n := xs.length) h1 hp (by rw [List.take_length]; exact hsm) hr S
  rw [List.take_length] at e2
  have f0 : dFld .rows (.prg hd xs cs) = some (.tup xs) := rfl
  simp only [evDef, startE, evSs, evEs, evO, evIf, evSrc, s_it1, s_it2, s_it3, e_lit, e_glob, e_var, e_pk, e_tup, e_lst, e_bin, e_star, e_neg, e_cmp, e_isN, e_chain, e_and, e_or, e_not, e_ite, e_idx, e_slice, e_fld, e_call, e_blt, e_isi, e_join, e_comp, e_dcomp, e_dic0, e_cidx, e_cell, e_cget, e_clen, e_ccat, v_asg, v_asgO, v_unp, v_par, v_setI, v_setK, v_aug, v_app, v_exp, v_ret, v_retO, v_retN, v_ite, v_for_, v_pass, v_never, v_frz, v_cset, immAt, pkAt, MP.setI, ownAt, lstOwn, dicOwn, MP.setO, List.map_cons, List.map_nil, List.length_cons, List.length_nil, List.cons_append, List.nil_append, List.getElem?_cons_zero, List.getElem?_cons_succ, R.of_some, R.of_none, R.bind_ok, RS.of_ok, RS.seq_nx, RS.seq_ret, nc0, nc1, nc2, nc3, nc4, nc5, nc6, nc7, nc8, nc9, s_bind, s_map, s_eqI, s_neI, s_eqS, s_neS, atI_0, atI_1, atI_2, atI_3, s_int1, s_int2, s_max, s_mod, s_ix1, s_ix2, s_len1, s_len2, s_list1, s_list2, s_list3, s_tup1, s_tup2, decide_true, decide_false, if_true, if_false, s_ge, s_lt, s_le, s_gt, s_truth, List.set_cons_zero, List.set_cons_succ, s_mul, Bool.or_true, s_add1, s_add3, s_add4, s_sub, s_fdiv, Bool.and_true, Bool.false_eq_true, List.replicate, Nat.reduceAdd, Nat.reduceSub, Int.reduceAdd, Int.reduceSub, Int.reduceMul, fnL, constF, newCell, R.bind_stuck, F_done, b_done, N_done, e1, f0, e2]
/-! ### told -/
def cols (cs : Str) : List Str := if cs = "x" then ["x"] else if cs = "y" then ["y"] else ["x", "y"]
theorem cols_it {cs : Str} (h : IsCols cs) : items (.str cs) = some ((cols cs).map .str) := by
  rcases h with rfl | rfl | rfl <;> rfl
theorem cols_in {cs : Str} (h : IsCols cs) : ∀ c ∈ cols cs, c = "x" ∨ c = "y" := by
  rcases h with rfl | rfl | rfl
  · intro c hc; exact .inl (List.mem_singleton.mp hc)
  · intro c hc; exact .inr (List.mem_singleton.mp hc)
  · intro c hc
    rcases List.mem_cons.mp hc with hc | hc
    · exact .inl hc
    · exact .inr (List.mem_singleton.mp hc)
/-- kept rows -/
def kept (hd : Str) (r : Row) : Bool := (Builtin.Str.occurrences hd r.m 0 hd.length 1).isEmpty
def toldR (cs : Str) (r : Row) : D := .tup ((cols cs).map fun c => ent (r.at c))
def toldF (hd : Str) (ds : List D) (cs : Str) (rows : List Row) : List D := ((stepsF hd ds rows).filter (kept hd)).map (toldR cs)
theorem nin_hd (m hd : Str) : dCmp .nin (.str m) (.str hd) = some (Builtin.Str.occurrences hd m 0 hd.length 1).isEmpty := by
  show some (!(!(Builtin.Str.occurrences hd m 0 hd.length 1).isEmpty)) = _
  rw [Bool.not_not]
theorem told_of_ok {hd cs : Str} {xs : List D} {rows : List Row} (h1 : IsHeld hd) (h2 : IsCols cs) (hp : ∀ d ∈ xs, IsSt d) (hsm : SmOk hd xs rows) (hr : ∀ r ∈ rows, IsMk r.m) (S : Sto) :
    F_told_of [.prg hd xs cs, .lst (rows.map Row.d)] S = .ok (.lst (toldF hd xs cs rows)) S := by
  have e2 := stepped_ok (cs := cs) (n := xs.length) h1 hp (by rw [List.take_length]; exact hsm) hr S
  rw [List.take_length] at e2
  have f0 : dFld .rows (.prg hd xs cs) = some (.tup xs) := rfl
  have f1 : dFld .marks (.prg hd xs cs) = some (.str hd) := rfl
  have f2 : F_Program_columns [.prg hd xs cs] S = .ok (.str cs) S := by
    have : dFld .shown (.prg hd xs cs) = some (.str cs) := rfl
    simp only [evDef, startE, evSs, evEs, evO, evIf, evSrc, s_it1, s_it2, s_it3, e_lit, e_glob, e_var, e_pk, e_tup, e_lst, e_bin, e_star, e_neg, e_cmp, e_isN, e_chain, e_and, e_or, e_not, e_ite, e_idx, e_slice, e_fld, e_call, e_blt, e_isi, e_join, e_comp, e_dcomp, e_dic0, e_cidx, e_cell, e_cget, e_clen, e_ccat, v_asg, v_asgO, v_unp, v_par, v_setI, v_setK, v_aug, v_app, v_exp, v_ret, v_retO, v_retN, v_ite, v_for_, v_pass, v_never, v_frz, v_cset, immAt, pkAt, MP.setI, ownAt, lstOwn, dicOwn, MP.setO, List.map_cons, List.map_nil, List.length_cons, List.length_nil, List.cons_append, List.nil_append, List.getElem?_cons_zero, List.getElem?_cons_succ, R.of_some, R.of_none, R.bind_ok, RS.of_ok, RS.seq_nx, RS.seq_ret, nc0, nc1, nc2, nc3, nc4, nc5, nc6, nc7, nc8, nc9, s_bind, s_map, s_eqI, s_neI, s_eqS, s_neS, atI_0, atI_1, atI_2, atI_3, s_int1, s_int2, s_max, s_mod, s_ix1, s_ix2, s_len1, s_len2, s_list1, s_list2, s_list3, s_tup1, s_tup2, decide_true, decide_false, if_true, if_false, s_ge, s_lt, s_le, s_gt, s_truth, List.set_cons_zero, List.set_cons_succ, s_mul, Bool.or_true, s_add1, s_add3, s_add4, s_sub, s_fdiv, Bool.and_true, Bool.false_eq_true, List.replicate, Nat.reduceAdd, Nat.reduceSub, Int.reduceAdd, Int.reduceSub, Int.reduceMul, fnL, constF, newCell, R.bind_stuck, F_Program_columns, b_Program_columns, N_Program_columns, this]
  have c1 : ∀ (a b c d : MP.Slot), compS (fnL [F_stepped, prpF F_Program_columns, F_entry_of]) [3] (.one 3) (some (.cmp .nin (.idx (.var 3) (.lit (.int 0))) (.fld .marks (.var 0)))) (.var 3) [.imm (.prg hd xs cs), a, b, c, d] ((stepsF hd xs rows).map Row.d) S = .ok ((stepsF hd xs rows).filterMap fun r => if kept hd r = true then some r.d else none) S := fun a b c d => by
    refine compS_map Row.d _ fun r hr => ⟨_, rfl, kept hd r, ?_, ?_⟩
    · have := rd0 r
      simp only [evDef, startE, evSs, evEs, evO, evIf, evSrc, s_it1, s_it2, s_it3, e_lit, e_glob, e_var, e_pk, e_tup, e_lst, e_bin, e_star, e_neg, e_cmp, e_isN, e_chain, e_and, e_or, e_not, e_ite, e_idx, e_slice, e_fld, e_call, e_blt, e_isi, e_join, e_comp, e_dcomp, e_dic0, e_cidx, e_cell, e_cget, e_clen, e_ccat, v_asg, v_asgO, v_unp, v_par, v_setI, v_setK, v_aug, v_app, v_exp, v_ret, v_retO, v_retN, v_ite, v_for_, v_pass, v_never, v_frz, v_cset, immAt, pkAt, MP.setI, ownAt, lstOwn, dicOwn, MP.setO, List.map_cons, List.map_nil, List.length_cons, List.length_nil, List.cons_append, List.nil_append, List.getElem?_cons_zero, List.getElem?_cons_succ, R.of_some, R.of_none, R.bind_ok, RS.of_ok, RS.seq_nx, RS.seq_ret, nc0, nc1, nc2, nc3, nc4, nc5, nc6, nc7, nc8, nc9, s_bind, s_map, s_eqI, s_neI, s_eqS, s_neS, atI_0, atI_1, atI_2, atI_3, s_int1, s_int2, s_max, s_mod, s_ix1, s_ix2, s_len1, s_len2, s_list1, s_list2, s_list3, s_tup1, s_tup2, decide_true, decide_false, if_true, if_false, s_ge, s_lt, s_le, s_gt, s_truth, List.set_cons_zero, List.set_cons_succ, s_mul, Bool.or_true, s_add1, s_add3, s_add4, s_sub, s_fdiv, Bool.and_true, Bool.false_eq_true, List.replicate, Nat.reduceAdd, Nat.reduceSub, Int.reduceAdd, Int.reduceSub, Int.reduceMul, fnL, constF, newCell, R.bind_stuck, wipeE, this, f1, nin_hd, kept]
    · split
      · exact ⟨r.d, by simp only [evDef, startE, evSs, evEs, evO, evIf, evSrc, s_it1, s_it2, s_it3, e_lit, e_glob, e_var, e_pk, e_tup, e_lst, e_bin, e_star, e_neg, e_cmp, e_isN, e_chain, e_and, e_or, e_not, e_ite, e_idx, e_slice, e_fld, e_call, e_blt, e_isi, e_join, e_comp, e_dcomp, e_dic0, e_cidx, e_cell, e_cget, e_clen, e_ccat, v_asg, v_asgO, v_unp, v_par, v_setI, v_setK, v_aug, v_app, v_exp, v_ret, v_retO, v_retN, v_ite, v_for_, v_pass, v_never, v_frz, v_cset, immAt, pkAt, MP.setI, ownAt, lstOwn, dicOwn, MP.setO, List.map_cons, List.map_nil, List.length_cons, List.length_nil, List.cons_append, List.nil_append, List.getElem?_cons_zero, List.getElem?_cons_succ, R.of_some, R.of_none, R.bind_ok, RS.of_ok, RS.seq_nx, RS.seq_ret, nc0, nc1, nc2, nc3, nc4, nc5, nc6, nc7, nc8, nc9, s_bind, s_map, s_eqI, s_neI, s_eqS, s_neS, atI_0, atI_1, atI_2, atI_3, s_int1, s_int2, s_max, s_mod, s_ix1, s_ix2, s_len1, s_len2, s_list1, s_list2, s_list3, s_tup1, s_tup2, decide_true, decide_false, if_true, if_false, s_ge, s_lt, s_le, s_gt, s_truth, List.set_cons_zero, List.set_cons_succ, s_mul, Bool.or_true, s_add1, s_add3, s_add4, s_sub, s_fdiv, Bool.and_true, Bool.false_eq_true, List.replicate, Nat.reduceAdd, Nat.reduceSub, Int.reduceAdd, Int.reduceSub, Int.reduceMul, fnL, constF, newCell, R.bind_stuck, wipeE], rfl⟩
      · rfl
  have g1 := fm_if (kept hd) Row.d (stepsF hd xs rows)
  have c2 : ∀ (a b c d : MP.Slot) (rs : List Row), compS (fnL [F_stepped, prpF F_Program_columns, F_entry_of]) [3] (.one 3) none (.blt .tuple [.comp [4] (.one 4) (.val (.call 1 [.var 0])) none (.call 2 [.var 3, .var 4])]) [.imm (.prg hd xs cs), a, b, c, d] (rs.map Row.d) S = .ok (rs.filterMap fun r => some (toldR cs r)) S := fun a b c d rs => by
    refine compS_map Row.d _ fun r hr => ⟨_, rfl, true, rfl, ?_⟩
    have c3 : ∀ (a b c d : MP.Slot), compS (fnL [F_stepped, prpF F_Program_columns, F_entry_of]) [4] (.one 4) none (.call 2 [.var 3, .var 4]) [a, b, c, .imm r.d, d] ((cols cs).map .str) S = .ok ((cols cs).filterMap fun q => some (ent (r.at q))) S := fun a b c d => by
      refine compS_map D.str _ fun q hq => ⟨_, rfl, true, rfl, ?_⟩
      have := entry_of (r := r) (cols_in h2 q hq) S
      exact ⟨ent (r.at q), by simp only [evDef, startE, evSs, evEs, evO, evIf, evSrc, s_it1, s_it2, s_it3, e_lit, e_glob, e_var, e_pk, e_tup, e_lst, e_bin, e_star, e_neg, e_cmp, e_isN, e_chain, e_and, e_or, e_not, e_ite, e_idx, e_slice, e_fld, e_call, e_blt, e_isi, e_join, e_comp, e_dcomp, e_dic0, e_cidx, e_cell, e_cget, e_clen, e_ccat, v_asg, v_asgO, v_unp, v_par, v_setI, v_setK, v_aug, v_app, v_exp, v_ret, v_retO, v_retN, v_ite, v_for_, v_pass, v_never, v_frz, v_cset, immAt, pkAt, MP.setI, ownAt, lstOwn, dicOwn, MP.setO, List.map_cons, List.map_nil, List.length_cons, List.length_nil, List.cons_append, List.nil_append, List.getElem?_cons_zero, List.getElem?_cons_succ, R.of_some, R.of_none, R.bind_ok, RS.of_ok, RS.seq_nx, RS.seq_ret, nc0, nc1, nc2, nc3, nc4, nc5, nc6, nc7, nc8, nc9, s_bind, s_map, s_eqI, s_neI, s_eqS, s_neS, atI_0, atI_1, atI_2, atI_3, s_int1, s_int2, s_max, s_mod, s_ix1, s_ix2, s_len1, s_len2, s_list1, s_list2, s_list3, s_tup1, s_tup2, decide_true, decide_false, if_true, if_false, s_ge, s_lt, s_le, s_gt, s_truth, List.set_cons_zero, List.set_cons_succ, s_mul, Bool.or_true, s_add1, s_add3, s_add4, s_sub, s_fdiv, Bool.and_true, Bool.false_eq_true, List.replicate, Nat.reduceAdd, Nat.reduceSub, Int.reduceAdd, Int.reduceSub, Int.reduceMul, fnL, constF, newCell, R.bind_stuck, wipeE, this], rfl⟩
    refine ⟨toldR cs r, ?_, rfl⟩
    simp only [evDef, startE, evSs, evEs, evO, evIf, evSrc, s_it1, s_it2, s_it3, e_lit, e_glob, e_var, e_pk, e_tup, e_lst, e_bin, e_star, e_neg, e_cmp, e_isN, e_chain, e_and, e_or, e_not, e_ite, e_idx, e_slice, e_fld, e_call, e_blt, e_isi, e_join, e_comp, e_dcomp, e_dic0, e_cidx, e_cell, e_cget, e_clen, e_ccat, v_asg, v_asgO, v_unp, v_par, v_setI, v_setK, v_aug, v_app, v_exp, v_ret, v_retO, v_retN, v_ite, v_for_, v_pass, v_never, v_frz, v_cset, immAt, pkAt, MP.setI, ownAt, lstOwn, dicOwn, MP.setO, List.map_cons, List.map_nil, List.length_cons, List.length_nil, List.cons_append, List.nil_append, List.getElem?_cons_zero, List.getElem?_cons_succ, R.of_some, R.of_none, R.bind_ok, RS.of_ok, RS.seq_nx, RS.seq_ret, nc0, nc1, nc2, nc3, nc4, nc5, nc6, nc7, nc8, nc9, s_bind, s_map, s_eqI, s_neI, s_eqS, s_neS, atI_0, atI_1, atI_2, atI_3, s_int1, s_int2, s_max, s_mod, s_ix1, s_ix2, s_len1, s_len2, s_list1, s_list2, s_list3, s_tup1, s_tup2, decide_true, decide_false, if_true, if_false, s_ge, s_lt, s_le, s_gt, s_truth, List.set_cons_zero, List.set_cons_succ, s_mul, Bool.or_true, s_add1, s_add3, s_add4, s_sub, s_fdiv, Bool.and_true, Bool.false_eq_true, List.replicate, Nat.reduceAdd, Nat.reduceSub, Int.reduceAdd, Int.reduceSub, Int.reduceMul, fnL, constF, newCell, R.bind_stuck, wipeE, prpF, f2, R.nox_ok, cols_it h2, c3, fm_some, toldR]
  rw [g1] at c1
  simp only [evDef, startE, evSs, evEs, evO, evIf, evSrc, s_it1, s_it2, s_it3, e_lit, e_glob, e_var, e_pk, e_tup, e_lst, e_bin, e_star, e_neg, e_cmp, e_isN, e_chain, e_and, e_or, e_not, e_ite, e_idx, e_slice, e_fld, e_call, e_blt, e_isi, e_join, e_comp, e_dcomp, e_dic0, e_cidx, e_cell, e_cget, e_clen, e_ccat, v_asg, v_asgO, v_unp, v_par, v_setI, v_setK, v_aug, v_app, v_exp, v_ret, v_retO, v_retN, v_ite, v_for_, v_pass, v_never, v_frz, v_cset, immAt, pkAt, MP.setI, ownAt, lstOwn, dicOwn, MP.setO, List.map_cons, List.map_nil, List.length_cons, List.length_nil, List.cons_append, List.nil_append, List.getElem?_cons_zero, List.getElem?_cons_succ, R.of_some, R.of_none, R.bind_ok, RS.of_ok, RS.seq_nx, RS.seq_ret, nc0, nc1, nc2, nc3, nc4, nc5, nc6, nc7, nc8, nc9, s_bind, s_map, s_eqI, s_neI, s_eqS, s_neS, atI_0, atI_1, atI_2, atI_3, s_int1, s_int2, s_max, s_mod, s_ix1, s_ix2, s_len1, s_len2, s_list1, s_list2, s_list3, s_tup1, s_tup2, decide_true, decide_false, if_true, if_false, s_ge, s_lt, s_le, s_gt, s_truth, List.set_cons_zero, List.set_cons_succ, s_mul, Bool.or_true, s_add1, s_add3, s_add4, s_sub, s_fdiv, Bool.and_true, Bool.false_eq_true, List.replicate, Nat.reduceAdd, Nat.reduceSub, Int.reduceAdd, Int.reduceSub, Int.reduceMul, fnL, constF, newCell, R.bind_stuck, F_told_of, b_told_of, N_told_of, f0, e2, c1, c2, fm_some, toldF]
theorem told_ok2 {hd cs : Str} {xs : List D} {rows : List Row} (h1 : IsHeld hd) (h2 : IsCols cs) (hp : ∀ d ∈ xs, IsSt d) (hsm : SmOk hd xs rows) (hr : ∀ r ∈ rows, IsMk r.m) (S : Sto) :
    F_told [.prg hd xs cs, .lst (rows.map Row.d)] S = .ok (.lst (toldF hd xs cs rows)) S := by
  have e1 := check_ok hr S
  have e2 := told_of_ok h1 h2 hp hsm hr S
  simp only [evDef, startE, evSs, evEs, evO, evIf, evSrc, s_it1, s_it2, s_it3, e_lit, e_glob, e_var, e_pk, e_tup, e_lst, e_bin, e_star, e_neg, e_cmp, e_isN, e_chain, e_and, e_or, e_not, e_ite, e_idx, e_slice, e_fld, e_call, e_blt, e_isi, e_join, e_comp, e_dcomp, e_dic0, e_cidx, e_cell, e_cget, e_clen, e_ccat, v_asg, v_asgO, v_unp, v_par, v_setI, v_setK, v_aug, v_app, v_exp, v_ret, v_retO, v_retN, v_ite, v_for_, v_pass, v_never, v_frz, v_cset, immAt, pkAt, MP.setI, ownAt, lstOwn, dicOwn, MP.setO, List.map_cons, List.map_nil, List.length_cons, List.length_nil, List.cons_append, List.nil_append, List.getElem?_cons_zero, List.getElem?_cons_succ, R.of_some, R.of_none, R.bind_ok, RS.of_ok, RS.seq_nx, RS.seq_ret, nc0, nc1, nc2, nc3, nc4, nc5, nc6, nc7, nc8, nc9, s_bind, s_map, s_eqI, s_neI, s_eqS, s_neS, atI_0, atI_1, atI_2, atI_3, s_int1, s_int2, s_max, s_mod, s_ix1, s_ix2, s_len1, s_len2, s_list1, s_list2, s_list3, s_tup1, s_tup2, decide_true, decide_false, if_true, if_false, s_ge, s_lt, s_le, s_gt, s_truth, List.set_cons_zero, List.set_cons_succ, s_mul, Bool.or_true, s_add1, s_add3, s_add4, s_sub, s_fdiv, Bool.and_true, Bool.false_eq_true, List.replicate, Nat.reduceAdd, Nat.reduceSub, Int.reduceAdd, Int.reduceSub, Int.reduceMul, fnL, constF, newCell, R.bind_stuck, F_told, b_told, N_told, e1, e2]
end PG

namespace PG
open PySem MP
/-! ### bounds -/
def Bd (B : Int) (rows : List Row) : Prop := ∀ r ∈ rows, ∀ c : Str, c = "x" ∨ c = "y" → ∀ i, r.at c = some i → -B ≤ i ∧ i ≤ B
theorem put_at {r : Row} {c c' : Str} {e : Option Int} (h : c = "x" ∨ c = "y") (h' : c' = "x" ∨ c' = "y") : (r.put c e).at c' = if c' = c then e else r.at c' := by
  rcases h with rfl | rfl <;> rcases h' with rfl | rfl <;> rfl
theorem sum_bd {B : Int} (hB : 0 ≤ B) : ∀ {l : List Int}, (∀ i ∈ l, -B ≤ i ∧ i ≤ B) → -((l.length : Int) * B) ≤ l.sum ∧ l.sum ≤ (l.length : Int) * B
  | [], _ => by simp
  | a :: l, h => by
    obtain ⟨h1, h2⟩ := sum_bd hB (l := l) fun i hi => h i (List.mem_cons_of_mem a hi)
    obtain ⟨h3, h4⟩ := h a List.mem_cons_self
    rw [List.sum_cons, List.length_cons]
    have e : (((l.length + 1 : Nat) : Int)) * B = (l.length : Int) * B + B := by
      rw [Int.natCast_add, Int.add_mul]; simp
    rw [e]
    omega
theorem agg_len (ms : List Str) (c : Str) (rows : List Row) : ((rows.filter fun r => decide (r.m ∈ ms)).filterMap fun r => r.at c).length ≤ rows.length :=
  Nat.le_trans (List.length_filterMap_le _ _) (List.length_filter_le _ _)
theorem agg_bd {B : Int} {w c : Str} {ms : List Str} {rows : List Row} (hB : 9 ≤ B) (hc : c = "x" ∨ c = "y") (h : Bd B rows) (hl : rows.length ≤ 31) : -(31 * B) ≤ aggW w ms c rows ∧ aggW w ms c rows ≤ 31 * B := by
  have l1 := agg_len ms c rows
  unfold aggW
  split
  · have := sum_bd (B := B) (by omega) (l := (rows.filter fun r => decide (r.m ∈ ms)).filterMap fun r => r.at c) fun i hi => by
      obtain ⟨r, hr, e⟩ := List.mem_filterMap.mp hi
      exact h r ((List.mem_filter.mp hr).1) c hc i e
    unfold sumC
    have m : (((rows.filter fun r => decide (r.m ∈ ms)).filterMap fun r => r.at c).length : Int) * B ≤ 31 * B := Int.mul_le_mul_of_nonneg_right (by omega) (by omega)
    omega
  · unfold cntC
    omega
theorem wth_bd {B : Int} {hd m : Str} {u : D} {rows : List Row} (hB : 9 ≤ B) (hu : IsW u) (h : Bd B rows) (hl : rows.length ≤ 31) : -(31 * B) ≤ wth hd m u rows ∧ wth hd m u rows ≤ 31 * B := by
  cases hu with
  | int a b => simp only [wth]; omega
  | tup a b c => exact agg_bd hB b h hl
theorem step_bd {B : Int} {hd : Str} {d : D} {rows : List Row} (hB : 9 ≤ B) (hd' : IsSt d) (ht : isT d = false) (h : Bd B rows) (hl : rows.length ≤ 31) : Bd (32 * B) (stepF hd d rows) := by
  intro r hr c hc i hi
  cases hd' with
  | @add c1 e h1 h2 =>
    rw [stepF_add] at hr
    obtain ⟨q, hq, rfl⟩ := List.mem_map.mp hr
    rw [put_at h1 hc] at hi
    split at hi
    · unfold addE at hi
      split at hi
      · rename_i a b ha hb
        cases hi
        have := h q hq c1 h1 _ ha
        have := h q hq e h2 _ hb
        omega
      · cases hi
    · have := h q hq c hc i hi
      omega
  | @put w c1 u h1 h2 h3 =>
    rw [stepF_w h1] at hr
    obtain ⟨q, hq, rfl⟩ := List.mem_map.mp hr
    have wb := wth_bd (hd := hd) (m := q.m) hB h3 h hl
    rw [put_at h2 hc] at hi
    split at hi
    · unfold chg at hi
      split at hi
      · cases hi; omega
      · split at hi
        · split at hi
          · cases hi; omega
          · rename_i j hj
            cases hi
            have := h q hq c1 h2 _ hj
            omega
        · split at hi
          · cases hj : q.at c1 with
            | none => rw [hj] at hi; cases hi
            | some j =>
              rw [hj] at hi
              have hi : some (j - wth hd q.m u rows) = some i := hi
              cases hi
              have := h q hq c1 h2 _ hj
              omega
          · rename_i n1 n2 n3
            rcases h1 with rfl | rfl | rfl | rfl
            · exact absurd rfl n2
            · exact absurd rfl n3
            · exact absurd rfl n1
            · cases ht
    · have := h q hq c hc i hi
      omega
theorem pow1 : ∀ n : Nat, (1 : Int) ≤ 32 ^ n
  | 0 => by simp
  | n + 1 => by have := pow1 n; rw [Int.pow_succ]; omega
theorem sm_none {hd : Str} : ∀ {ds : List D} {rows : List Row}, ds.filterMap gT = [] → SmOk hd ds rows
  | [], _, _ => trivial
  | d :: ds, rows, h => by
    cases ht : isT d with
    | true => rw [List.filterMap_cons] at h; simp [gT, ht] at h
    | false =>
      rw [List.filterMap_cons] at h
      simp only [gT, ht, Bool.false_eq_true, if_false] at h
      exact ⟨fun e => (by rw [ht] at e; cases e), sm_none h⟩
theorem sm_of {hd : Str} : ∀ {ds : List D} {rows : List Row} {B : Int}, (∀ d ∈ ds, IsSt d) → (ds.filterMap gT).length ≤ 1 → Bd B rows → 9 ≤ B → rows.length ≤ 31 → B * 32 ^ ds.length < 2 ^ 64 → SmOk hd ds rows
  | [], _, _, _, _, _, _, _, _ => by trivial
  | d :: ds, rows, B, h1, h2, h3, h4, h5, h6 => by
    have p : (1 : Int) ≤ 32 ^ (d :: ds).length := pow1 _
    have bb : B < 2 ^ 64 := Int.lt_of_le_of_lt (by
      have := Int.mul_le_mul_of_nonneg_left p (show 0 ≤ B by omega)
      omega) h6
    refine ⟨fun _ r hr c hc i hi => ?_, ?_⟩
    · have := h3 r hr c hc i hi
      unfold small
      simp only [Bool.and_eq_true, decide_eq_true_eq]
      omega
    · cases ht : isT d with
      | true =>
        refine sm_none ?_
        rw [List.filterMap_cons] at h2
        simp only [gT, ht, if_true, List.length_cons] at h2
        exact List.length_eq_zero_iff.mp (by omega)
      | false =>
        rw [List.filterMap_cons] at h2
        simp only [gT, ht, Bool.false_eq_true, if_false] at h2
        refine sm_of (fun e he => h1 e (List.mem_cons_of_mem d he)) h2 (step_bd h4 (h1 d List.mem_cons_self) ht h3 h5) (by omega) (by rw [stepF_len (h1 d List.mem_cons_self)]; exact h5) ?_
        have e : B * 32 ^ (d :: ds).length = 32 * B * 32 ^ ds.length := by
          rw [List.length_cons, Int.pow_succ, Int.mul_comm (32 ^ ds.length) 32, ← Int.mul_assoc, Int.mul_comm B 32]
        rw [← e]
        exact h6
theorem sm_take {hd : Str} : ∀ {ds : List D} {rows : List Row} (n : Nat), SmOk hd ds rows → SmOk hd (ds.take n) rows
  | [], _, n, _ => by rw [List.take_nil]; trivial
  | d :: ds, rows, 0, h => trivial
  | d :: ds, rows, n + 1, h => ⟨h.1, sm_take n h.2⟩
/-! ### drawn tables -/
theorem rows_of : ∀ {rs : List D}, (∀ r ∈ rs, IsRow r) → ∃ rows : List Row, rs = rows.map Row.d ∧ (∀ r ∈ rows, IsMk r.m) ∧ rows.length = rs.length ∧ Bd 20 rows
  | [], _ => ⟨[], rfl, by simp, rfl, fun r hr => by simp at hr⟩
  | d :: ds, h => by
    obtain ⟨rows, e, a, b, bd⟩ := rows_of fun r hr => h r (List.mem_cons_of_mem d hr)
    have ie : ∀ x, IsE x → ∃ o, x = ent o ∧ ∀ i, o = some i → -20 ≤ i ∧ i ≤ 20 := fun x hx => by
      rcases hx with rfl | ⟨i, rfl, h1, h2⟩
      · exact ⟨none, rfl, fun i h => by cases h⟩
      · exact ⟨some i, rfl, fun j h => by cases h; exact ⟨h1, h2⟩⟩
    cases h d List.mem_cons_self with
    | @mk m x y h1 h2 h3 =>
      obtain ⟨o, rfl, ho⟩ := ie x h2
      obtain ⟨p, rfl, hp⟩ := ie y h3
      refine ⟨⟨m, o, p⟩ :: rows, by rw [e]; rfl, fun r hr => ?_, by simp [b], fun r hr => ?_⟩
      · rcases List.mem_cons.mp hr with rfl | hr
        · exact h1
        · exact a r hr
      · rcases List.mem_cons.mp hr with rfl | hr
        · intro c hc i hi
          rcases hc with rfl | rfl
          · exact ho i hi
          · exact hp i hi
        · exact bd r hr
/-! ### equal to oneself -/
mutual
theorem eqv_refl : ∀ (n : Nat) (d : D), d.plain n = true → d.eqv d = true
  | _, .non, _ => rfl
  | _, .bl _, _ => by simp [D.eqv]
  | _, .int _, _ => by simp [D.eqv]
  | _, .str _, _ => by simp [D.eqv]
  | 0, .tup _, h => by simp [D.plain] at h
  | 0, .lst _, h => by simp [D.plain] at h
  | n + 1, .tup xs, h => by simp only [D.plain] at h; simp only [D.eqv]; exact eqvs_refl n xs h
  | n + 1, .lst xs, h => by simp only [D.plain] at h; simp only [D.eqv]; exact eqvs_refl n xs h
  | _, .dic _, h => by simp [D.plain] at h
  | _, .prg _ _ _, h => by simp [D.plain] at h
  | _, .ref _, h => by simp [D.plain] at h
  | _, .scr _, h => by simp [D.plain] at h
theorem eqvs_refl : ∀ (n : Nat) (ds : List D), D.plains n ds = true → D.eqvs ds ds = true
  | _, [], _ => rfl
  | n, d :: ds, h => by
    simp only [D.plains, Bool.and_eq_true] at h
    simp only [D.eqvs, eqv_refl n d h.1, eqvs_refl n ds h.2, Bool.and_self]
end
theorem ne_self {d : D} (h : d.plain 64 = true) : dCmp .ne d d = some false := by
  unfold dCmp
  simp only [h, eqv_refl 64 d h, Bool.and_self, if_true, Bool.not_true]
theorem eq_self {d : D} (h : d.plain 64 = true) : dCmp .eq d d = some true := by
  unfold dCmp
  simp only [h, eqv_refl 64 d h, Bool.and_self, if_true]
theorem row_plain (r : Row) : r.d.plain 63 = true := by
  unfold Row.d
  cases r.x <;> cases r.y <;> simp [D.plain, D.plains, ent]
theorem rows_plain (rows : List Row) : (D.lst (rows.map Row.d)).plain 64 = true := by
  rw [D.plain]
  exact plains_of fun d hd => by
    obtain ⟨r, _, rfl⟩ := List.mem_map.mp hd
    exact row_plain r
theorem told_plain (cs : Str) (rows : List Row) : (D.lst (rows.map (toldR cs))).plain 64 = true := by
  rw [D.plain]
  refine plains_of fun d hd => ?_
  obtain ⟨r, _, rfl⟩ := List.mem_map.mp hd
  unfold toldR
  rw [D.plain]
  refine plains_of fun e he => ?_
  obtain ⟨c, _, rfl⟩ := List.mem_map.mp he
  cases r.at c <;> rfl
end PG

namespace PG
open PySem MP
theorem built_ok {hd cs : Str} {xs : List D} (h1 : IsHeld hd) (h2 : StepsOk xs) (h3 : xs.length ≤ 5) (h4 : IsCols cs) (S : Sto) : F_law_built [.tup [.str hd, .lst xs, .str cs]] S = .ok (.prg hd xs cs) S := by
  have e := new_prg h1 h2 h3 h4 S
  simp only [evDef, startE, evSs, evEs, evO, evIf, evSrc, s_it1, s_it2, s_it3, e_lit, e_glob, e_var, e_pk, e_tup, e_lst, e_bin, e_star, e_neg, e_cmp, e_isN, e_chain, e_and, e_or, e_not, e_ite, e_idx, e_slice, e_fld, e_call, e_blt, e_isi, e_join, e_comp, e_dcomp, e_dic0, e_cidx, e_cell, e_cget, e_clen, e_ccat, v_asg, v_asgO, v_unp, v_par, v_setI, v_setK, v_aug, v_app, v_exp, v_ret, v_retO, v_retN, v_ite, v_for_, v_pass, v_never, v_frz, v_cset, immAt, pkAt, MP.setI, ownAt, lstOwn, dicOwn, MP.setO, List.map_cons, List.map_nil, List.length_cons, List.length_nil, List.cons_append, List.nil_append, List.getElem?_cons_zero, List.getElem?_cons_succ, R.of_some, R.of_none, R.bind_ok, RS.of_ok, RS.seq_nx, RS.seq_ret, nc0, nc1, nc2, nc3, nc4, nc5, nc6, nc7, nc8, nc9, s_bind, s_map, s_eqI, s_neI, s_eqS, s_neS, atI_0, atI_1, atI_2, atI_3, s_int1, s_int2, s_max, s_mod, s_ix1, s_ix2, s_len1, s_len2, s_list1, s_list2, s_list3, s_tup1, s_tup2, decide_true, decide_false, if_true, if_false, s_ge, s_lt, s_le, s_gt, s_truth, List.set_cons_zero, List.set_cons_succ, s_mul, Bool.or_true, s_add1, s_add3, s_add4, s_sub, s_fdiv, Bool.and_true, Bool.false_eq_true, List.replicate, Nat.reduceAdd, Nat.reduceSub, Int.reduceAdd, Int.reduceSub, Int.reduceMul, fnL, constF, newCell, R.bind_stuck, F_law_built, b_law_built, N_law_built, e]
/-! ### the same rows in another order -/
def nthD (rows : List Row) : D → Row
  | .int i => (rows[i.toNat]?).getD ⟨"a", none, none⟩
  | _ => ⟨"a", none, none⟩
theorem mem_rng {d : D} {n : Nat} (h : d ∈ rngItems 0 n) : ∃ i : Nat, d = .int (i : Int) ∧ i < n := by
  unfold rngItems at h
  obtain ⟨k, hk, rfl⟩ := List.mem_map.mp h
  exact ⟨k, by simp, List.mem_range.mp hk⟩
theorem idx_rows {rows : List Row} {x : D} (f : Row → D) (h : x ∈ rngItems 0 rows.length) : dIdx (.lst (rows.map f)) x = some (f (nthD rows x)) := by
  obtain ⟨i, rfl, hi⟩ := mem_rng h
  rw [s_ix2]
  refine atI_of ?_
  rw [List.getElem?_map, List.getElem?_eq_getElem hi]
  simp [nthD, List.getElem?_eq_getElem hi]
theorem nth_map {rows : List Row} {x : D} (f : Row → Row) (h : x ∈ rngItems 0 rows.length) : nthD (rows.map f) x = f (nthD rows x) := by
  obtain ⟨i, rfl, hi⟩ := mem_rng h
  simp [nthD, List.getElem?_eq_getElem hi]
theorem rng_nth (rows : List Row) : (rngItems 0 rows.length).map (nthD rows) = rows := by
  apply List.ext_getElem?
  intro i
  unfold rngItems
  rw [List.map_map, List.getElem?_map]
  by_cases hi : i < rows.length
  · rw [List.getElem?_range hi, List.getElem?_eq_getElem hi]
    simp [nthD, List.getElem?_eq_getElem hi]
  · rw [List.getElem?_eq_none (by simp; omega), List.getElem?_eq_none (by omega)]
    rfl
theorem perm_sum {l l' : List Int} (h : l.Perm l') : l.sum = l'.sum := by
  induction h with
  | nil => rfl
  | cons x _ ih => rw [List.sum_cons, List.sum_cons, ih]
  | swap x y l => simp only [List.sum_cons]; omega
  | trans _ _ a b => exact a.trans b
theorem wth_perm {hd m : Str} {u : D} {rows rows' : List Row} (h : rows'.Perm rows) (hu : IsW u) : wth hd m u rows' = wth hd m u rows := by
  cases hu with
  | int a b => rfl
  | @tup w c sc bh a b d =>
    simp only [wth, aggW, sumC, cntC]
    have p := (h.filter fun r => decide (r.m ∈ mks hd m sc bh)).filterMap fun r => r.at c
    split
    · exact perm_sum p
    · exact congrArg _ p.length_eq
def Ord (ks : List D) (n : Nat) : Prop := ks.Perm (rngItems 0 n)
theorem Ord.mem {ks : List D} {n : Nat} (h : Ord ks n) {k : D} (hk : k ∈ ks) : k ∈ rngItems 0 n := h.mem_iff.mp hk
theorem Ord.perm {ks : List D} {rows : List Row} (h : Ord ks rows.length) : (ks.map (nthD rows)).Perm rows := by
  have := h.map (nthD rows)
  rw [rng_nth] at this
  exact this
theorem ord_map {ks : List D} {rows : List Row} (f : Row → Row) (h : Ord ks rows.length) : (ks.map (nthD rows)).map f = ks.map (nthD (rows.map f)) := by
  rw [List.map_map]
  exact List.map_congr_left fun k hk => (nth_map f (h.mem hk)).symm
theorem ord_step {hd : Str} {d : D} {ks : List D} {rows : List Row} (hd' : IsSt d) (h : Ord ks rows.length) : stepF hd d (ks.map (nthD rows)) = ks.map (nthD (stepF hd d rows)) := by
  cases hd' with
  | add a b => rw [stepF_add, stepF_add, ord_map _ h]
  | @put w c u a b c' =>
    rw [stepF_w a, stepF_w a, ← ord_map _ h]
    have e : ∀ m, wth hd m u (ks.map (nthD rows)) = wth hd m u rows := fun m => wth_perm h.perm c'
    simp only [e]
theorem ord_steps {hd : Str} {ks : List D} : ∀ {ds : List D} {rows : List Row}, (∀ d ∈ ds, IsSt d) → Ord ks rows.length → stepsF hd ds (ks.map (nthD rows)) = ks.map (nthD (stepsF hd ds rows))
  | [], _, _, _ => rfl
  | d :: ds, rows, hd', h => by
    have q := hd' d List.mem_cons_self
    unfold stepsF
    rw [List.foldl_cons, List.foldl_cons, ord_step q h]
    exact ord_steps (fun e he => hd' e (List.mem_cons_of_mem d he)) (by rw [stepF_len q]; exact h)
theorem steps_len {hd : Str} : ∀ {ds : List D} {rows : List Row}, (∀ d ∈ ds, IsSt d) → (stepsF hd ds rows).length = rows.length
  | [], _, _ => rfl
  | d :: ds, rows, h => by
    unfold stepsF
    rw [List.foldl_cons]
    exact (steps_len (fun e he => h e (List.mem_cons_of_mem d he))).trans (stepF_len (h d List.mem_cons_self))
theorem step_ms {hd : Str} {d : D} {rows : List Row} (h : IsSt d) : (stepF hd d rows).map Row.m = rows.map Row.m := by
  cases h with
  | add a b => rw [stepF_add, List.map_map]; exact List.map_congr_left fun r _ => put_m ..
  | put a b c => rw [stepF_w a, List.map_map]; exact List.map_congr_left fun r _ => put_m ..
theorem steps_ms {hd : Str} : ∀ {ds : List D} {rows : List Row}, (∀ d ∈ ds, IsSt d) → (stepsF hd ds rows).map Row.m = rows.map Row.m
  | [], _, _ => rfl
  | d :: ds, rows, h => by
    unfold stepsF
    rw [List.foldl_cons]
    exact (steps_ms (fun e he => h e (List.mem_cons_of_mem d he))).trans (step_ms (h d List.mem_cons_self))
theorem nth_m {rows rows' : List Row} (h : rows.map Row.m = rows'.map Row.m) (x : D) : (nthD rows x).m = (nthD rows' x).m := by
  cases x <;> try rfl
  rename_i i
  have e := congrArg (fun l : List Str => l[i.toNat]?) h
  simp only [List.getElem?_map] at e
  simp only [nthD]
  cases a : rows[i.toNat]? <;> cases b : rows'[i.toNat]? <;> rw [a, b] at e <;> simp at e
  exact e
end PG

namespace PG
open PySem MP
/-! ### alike -/
theorem ne_bl (b : Bool) : dCmp .ne (.bl b) (.bl b) = some false := by cases b <;> rfl
theorem eq_bl (b : Bool) : dCmp .eq (.bl b) (.bl b) = some true := by cases b <;> rfl
theorem rng_of {n : Int} (h0 : 0 ≤ n) (h : n ≤ 1000) : dRng [.int n] = some (rngItems 0 n.toNat) := by
  have q : (decide (-(2 ^ 62) ≤ n) && decide (n ≤ BIG)) = true := by rw [BIGv]; simp; omega
  exact if_pos q
def vflat : D → Bool
  | .non | .bl _ | .int _ | .str _ => true
  | _ => false
theorem vflat_plain {d : D} (h : vflat d = true) (n : Nat) : d.plain n = true := by cases d <;> first | cases n <;> rfl | cases h
theorem alike_flat {n : Nat} {d : D} (h : vflat d = true) (S : Sto) : F_law_alike (n + 1) [d, d] S = .ok (.bl true) S := by
  have e := eq_self (vflat_plain h 64)
  cases d <;> first | cases h | skip
  all_goals simp only [evDef, startE, evSs, evEs, evO, evIf, evSrc, s_it1, s_it2, s_it3, e_lit, e_glob, e_var, e_pk, e_tup, e_lst, e_bin, e_star, e_neg, e_cmp, e_isN, e_chain, e_and, e_or, e_not, e_ite, e_idx, e_slice, e_fld, e_call, e_blt, e_isi, e_join, e_comp, e_dcomp, e_dic0, e_cidx, e_cell, e_cget, e_clen, e_ccat, v_asg, v_asgO, v_unp, v_par, v_setI, v_setK, v_aug, v_app, v_exp, v_ret, v_retO, v_retN, v_ite, v_for_, v_pass, v_never, v_frz, v_cset, immAt, pkAt, MP.setI, ownAt, lstOwn, dicOwn, MP.setO, List.map_cons, List.map_nil, List.length_cons, List.length_nil, List.cons_append, List.nil_append, List.getElem?_cons_zero, List.getElem?_cons_succ, R.of_some, R.of_none, R.bind_ok, RS.of_ok, RS.seq_nx, RS.seq_ret, nc0, nc1, nc2, nc3, nc4, nc5, nc6, nc7, nc8, nc9, s_bind, s_map, s_eqI, s_neI, s_eqS, s_neS, atI_0, atI_1, atI_2, atI_3, s_int1, s_int2, s_max, s_mod, s_ix1, s_ix2, s_len1, s_len2, s_list1, s_list2, s_list3, s_tup1, s_tup2, decide_true, decide_false, if_true, if_false, s_ge, s_lt, s_le, s_gt, s_truth, List.set_cons_zero, List.set_cons_succ, s_mul, Bool.or_true, s_add1, s_add3, s_add4, s_sub, s_fdiv, Bool.and_true, Bool.false_eq_true, List.replicate, Nat.reduceAdd, Nat.reduceSub, Int.reduceAdd, Int.reduceSub, Int.reduceMul, fnL, constF, newCell, R.bind_stuck, F_law_alike, b_law_alike, N_law_alike, isTys, List.any_cons, List.any_nil, isTy, Bool.or_false, Bool.false_or, Bool.or_true, isNb, Bool.not_false, Bool.not_true, e, eq_bl]
theorem alike_seq {n : Nat} {xs : List D} {f : List D → D} (hf : f = .lst ∨ f = .tup) (hl : xs.length ≤ 1000) (S : Sto) (h : ∀ x ∈ xs, F_law_alike n [x, x] S = .ok (.bl true) S) : F_law_alike (n + 1) [f xs, f xs] S = .ok (.bl true) S := by
  have er := rng_of (n := (xs.length : Int)) (by omega) (by omega)
  have cm : ∀ (a b : MP.Slot), compS (fnL [F_law_alike n]) [2] (.one 2) (some (.not (.call 0 [.idx (.var 0) (.var 2), .idx (.var 1) (.var 2)]))) (.var 2) [.imm (f xs), .imm (f xs), .no] (rngItems 0 (xs.length : Int).toNat) S = .ok [] S := fun a b => by
    have := compS_run (fn := fnL [F_law_alike n]) (own := [2]) (tg := .one 2) (ifs := some (.not (.call 0 [.idx (.var 0) (.var 2), .idx (.var 1) (.var 2)]))) (elt := .var 2) (ρ := [.imm (f xs), .imm (f xs), .no]) (s := S) (fun _ => none) (ds := rngItems 0 (xs.length : Int).toNat) fun d hd => by
      rw [Int.toNat_natCast] at hd
      obtain ⟨i, rfl, hi⟩ := mem_rng hd
      have e1 : dIdx (f xs) (.int (i : Int)) = some xs[i] := by
        rcases hf with rfl | rfl
        · rw [s_ix2]; exact atI_of (List.getElem?_eq_getElem hi)
        · rw [s_ix1]; exact atI_of (List.getElem?_eq_getElem hi)
      have e2 := h xs[i] (List.getElem_mem hi)
      refine ⟨_, rfl, false, ?_, by simp⟩
      simp only [evDef, startE, evSs, evEs, evO, evIf, evSrc, s_it1, s_it2, s_it3, e_lit, e_glob, e_var, e_pk, e_tup, e_lst, e_bin, e_star, e_neg, e_cmp, e_isN, e_chain, e_and, e_or, e_not, e_ite, e_idx, e_slice, e_fld, e_call, e_blt, e_isi, e_join, e_comp, e_dcomp, e_dic0, e_cidx, e_cell, e_cget, e_clen, e_ccat, v_asg, v_asgO, v_unp, v_par, v_setI, v_setK, v_aug, v_app, v_exp, v_ret, v_retO, v_retN, v_ite, v_for_, v_pass, v_never, v_frz, v_cset, immAt, pkAt, MP.setI, ownAt, lstOwn, dicOwn, MP.setO, List.map_cons, List.map_nil, List.length_cons, List.length_nil, List.cons_append, List.nil_append, List.getElem?_cons_zero, List.getElem?_cons_succ, R.of_some, R.of_none, R.bind_ok, RS.of_ok, RS.seq_nx, RS.seq_ret, nc0, nc1, nc2, nc3, nc4, nc5, nc6, nc7, nc8, nc9, s_bind, s_map, s_eqI, s_neI, s_eqS, s_neS, atI_0, atI_1, atI_2, atI_3, s_int1, s_int2, s_max, s_mod, s_ix1, s_ix2, s_len1, s_len2, s_list1, s_list2, s_list3, s_tup1, s_tup2, decide_true, decide_false, if_true, if_false, s_ge, s_lt, s_le, s_gt, s_truth, List.set_cons_zero, List.set_cons_succ, s_mul, Bool.or_true, s_add1, s_add3, s_add4, s_sub, s_fdiv, Bool.and_true, Bool.false_eq_true, List.replicate, Nat.reduceAdd, Nat.reduceSub, Int.reduceAdd, Int.reduceSub, Int.reduceMul, fnL, constF, newCell, R.bind_stuck, wipeE, e1, e2, dNot, Bool.not_true]
    rw [this]
    congr 1
    induction rngItems 0 (xs.length : Int).toNat with
    | nil => rfl
    | cons a l ih => rw [List.filterMap_cons]; exact ih
  have hL0 := mkL_of (xs := []) (n := 0) rfl (by decide)
  have e0 : dCmp .eq (.lst []) (.lst []) = some true := rfl
  rcases hf with rfl | rfl
  · simp only [evDef, startE, evSs, evEs, evO, evIf, evSrc, s_it1, s_it2, s_it3, e_lit, e_glob, e_var, e_pk, e_tup, e_lst, e_bin, e_star, e_neg, e_cmp, e_isN, e_chain, e_and, e_or, e_not, e_ite, e_idx, e_slice, e_fld, e_call, e_blt, e_isi, e_join, e_comp, e_dcomp, e_dic0, e_cidx, e_cell, e_cget, e_clen, e_ccat, v_asg, v_asgO, v_unp, v_par, v_setI, v_setK, v_aug, v_app, v_exp, v_ret, v_retO, v_retN, v_ite, v_for_, v_pass, v_never, v_frz, v_cset, immAt, pkAt, MP.setI, ownAt, lstOwn, dicOwn, MP.setO, List.map_cons, List.map_nil, List.length_cons, List.length_nil, List.cons_append, List.nil_append, List.getElem?_cons_zero, List.getElem?_cons_succ, R.of_some, R.of_none, R.bind_ok, RS.of_ok, RS.seq_nx, RS.seq_ret, nc0, nc1, nc2, nc3, nc4, nc5, nc6, nc7, nc8, nc9, s_bind, s_map, s_eqI, s_neI, s_eqS, s_neS, atI_0, atI_1, atI_2, atI_3, s_int1, s_int2, s_max, s_mod, s_ix1, s_ix2, s_len1, s_len2, s_list1, s_list2, s_list3, s_tup1, s_tup2, decide_true, decide_false, if_true, if_false, s_ge, s_lt, s_le, s_gt, s_truth, List.set_cons_zero, List.set_cons_succ, s_mul, Bool.or_true, s_add1, s_add3, s_add4, s_sub, s_fdiv, Bool.and_true, Bool.false_eq_true, List.replicate, Nat.reduceAdd, Nat.reduceSub, Int.reduceAdd, Int.reduceSub, Int.reduceMul, fnL, constF, newCell, R.bind_stuck, F_law_alike, b_law_alike, N_law_alike, isTys, List.any_cons, List.any_nil, isTy, Bool.or_false, Bool.false_or, Bool.or_true, isNb, Bool.not_false, Bool.not_true, dNot, ne_bl, er, cm .no .no, hL0, e0]
  · simp only [evDef, startE, evSs, evEs, evO, evIf, evSrc, s_it1, s_it2, s_it3, e_lit, e_glob, e_var, e_pk, e_tup, e_lst, e_bin, e_star, e_neg, e_cmp, e_isN, e_chain, e_and, e_or, e_not, e_ite, e_idx, e_slice, e_fld, e_call, e_blt, e_isi, e_join, e_comp, e_dcomp, e_dic0, e_cidx, e_cell, e_cget, e_clen, e_ccat, v_asg, v_asgO, v_unp, v_par, v_setI, v_setK, v_aug, v_app, v_exp, v_ret, v_retO, v_retN, v_ite, v_for_, v_pass, v_never, v_frz, v_cset, immAt, pkAt, MP.setI, ownAt, lstOwn, dicOwn, MP.setO, List.map_cons, List.map_nil, List.length_cons, List.length_nil, List.cons_append, List.nil_append, List.getElem?_cons_zero, List.getElem?_cons_succ, R.of_some, R.of_none, R.bind_ok, RS.of_ok, RS.seq_nx, RS.seq_ret, nc0, nc1, nc2, nc3, nc4, nc5, nc6, nc7, nc8, nc9, s_bind, s_map, s_eqI, s_neI, s_eqS, s_neS, atI_0, atI_1, atI_2, atI_3, s_int1, s_int2, s_max, s_mod, s_ix1, s_ix2, s_len1, s_len2, s_list1, s_list2, s_list3, s_tup1, s_tup2, decide_true, decide_false, if_true, if_false, s_ge, s_lt, s_le, s_gt, s_truth, List.set_cons_zero, List.set_cons_succ, s_mul, Bool.or_true, s_add1, s_add3, s_add4, s_sub, s_fdiv, Bool.and_true, Bool.false_eq_true, List.replicate, Nat.reduceAdd, Nat.reduceSub, Int.reduceAdd, Int.reduceSub, Int.reduceMul, fnL, constF, newCell, R.bind_stuck, F_law_alike, b_law_alike, N_law_alike, isTys, List.any_cons, List.any_nil, isTy, Bool.or_false, Bool.false_or, Bool.or_true, isNb, Bool.not_false, Bool.not_true, dNot, ne_bl, er, cm .no .no, hL0, e0]
theorem alike_row {n : Nat} (r : Row) (S : Sto) : F_law_alike (n + 2) [r.d, r.d] S = .ok (.bl true) S := by
  refine alike_seq (f := .tup) (.inr rfl) (by simp) S fun x hx => ?_
  refine alike_flat ?_ S
  simp only [List.mem_cons, List.mem_nil_iff, or_false] at hx
  rcases hx with rfl | rfl | rfl
  · rfl
  · cases r.x <;> rfl
  · cases r.y <;> rfl
theorem alike_rows {n : Nat} {rows : List Row} (hl : rows.length ≤ 1000) (S : Sto) : F_law_alike (n + 3) [.lst (rows.map Row.d), .lst (rows.map Row.d)] S = .ok (.bl true) S := by
  refine alike_seq (f := .lst) (.inl rfl) (by rw [List.length_map]; exact hl) S fun x hx => ?_
  obtain ⟨r, _, rfl⟩ := List.mem_map.mp hx
  exact alike_row r S
theorem alike_told {n : Nat} {cs : Str} {rows : List Row} (hc : IsCols cs) (hl : rows.length ≤ 1000) (S : Sto) : F_law_alike (n + 3) [.lst (rows.map (toldR cs)), .lst (rows.map (toldR cs))] S = .ok (.bl true) S := by
  refine alike_seq (f := .lst) (.inl rfl) (by rw [List.length_map]; exact hl) S fun x hx => ?_
  obtain ⟨r, _, rfl⟩ := List.mem_map.mp hx
  refine alike_seq (f := .tup) (.inr rfl) (by rw [List.length_map]; rcases hc with rfl | rfl | rfl <;> decide) S fun x hx => ?_
  obtain ⟨c, _, rfl⟩ := List.mem_map.mp hx
  exact alike_flat (by cases r.at c <;> rfl) S
/-! ### the law's own doings -/
theorem at_ok {r : Row} {c : Str} (h : c = "x" ∨ c = "y") (S : Sto) : F_law_at [r.d, .str c] S = .ok (ent (r.at c)) S := by
  rcases h with rfl | rfl
  · simp only [evDef, startE, evSs, evEs, evO, evIf, evSrc, s_it1, s_it2, s_it3, e_lit, e_glob, e_var, e_pk, e_tup, e_lst, e_bin, e_star, e_neg, e_cmp, e_isN, e_chain, e_and, e_or, e_not, e_ite, e_idx, e_slice, e_fld, e_call, e_blt, e_isi, e_join, e_comp, e_dcomp, e_dic0, e_cidx, e_cell, e_cget, e_clen, e_ccat, v_asg, v_asgO, v_unp, v_par, v_setI, v_setK, v_aug, v_app, v_exp, v_ret, v_retO, v_retN, v_ite, v_for_, v_pass, v_never, v_frz, v_cset, immAt, pkAt, MP.setI, ownAt, lstOwn, dicOwn, MP.setO, List.map_cons, List.map_nil, List.length_cons, List.length_nil, List.cons_append, List.nil_append, List.getElem?_cons_zero, List.getElem?_cons_succ, R.of_some, R.of_none, R.bind_ok, RS.of_ok, RS.seq_nx, RS.seq_ret, nc0, nc1, nc2, nc3, nc4, nc5, nc6, nc7, nc8, nc9, s_bind, s_map, s_eqI, s_neI, s_eqS, s_neS, atI_0, atI_1, atI_2, atI_3, s_int1, s_int2, s_max, s_mod, s_ix1, s_ix2, s_len1, s_len2, s_list1, s_list2, s_list3, s_tup1, s_tup2, decide_true, decide_false, if_true, if_false, s_ge, s_lt, s_le, s_gt, s_truth, List.set_cons_zero, List.set_cons_succ, s_mul, Bool.or_true, s_add1, s_add3, s_add4, s_sub, s_fdiv, Bool.and_true, Bool.false_eq_true, List.replicate, Nat.reduceAdd, Nat.reduceSub, Int.reduceAdd, Int.reduceSub, Int.reduceMul, fnL, constF, newCell, R.bind_stuck, F_law_at, b_law_at, N_law_at, Row.d, Row.at]
  · simp only [evDef, startE, evSs, evEs, evO, evIf, evSrc, s_it1, s_it2, s_it3, e_lit, e_glob, e_var, e_pk, e_tup, e_lst, e_bin, e_star, e_neg, e_cmp, e_isN, e_chain, e_and, e_or, e_not, e_ite, e_idx, e_slice, e_fld, e_call, e_blt, e_isi, e_join, e_comp, e_dcomp, e_dic0, e_cidx, e_cell, e_cget, e_clen, e_ccat, v_asg, v_asgO, v_unp, v_par, v_setI, v_setK, v_aug, v_app, v_exp, v_ret, v_retO, v_retN, v_ite, v_for_, v_pass, v_never, v_frz, v_cset, immAt, pkAt, MP.setI, ownAt, lstOwn, dicOwn, MP.setO, List.map_cons, List.map_nil, List.length_cons, List.length_nil, List.cons_append, List.nil_append, List.getElem?_cons_zero, List.getElem?_cons_succ, R.of_some, R.of_none, R.bind_ok, RS.of_ok, RS.seq_nx, RS.seq_ret, nc0, nc1, nc2, nc3, nc4, nc5, nc6, nc7, nc8, nc9, s_bind, s_map, s_eqI, s_neI, s_eqS, s_neS, atI_0, atI_1, atI_2, atI_3, s_int1, s_int2, s_max, s_mod, s_ix1, s_ix2, s_len1, s_len2, s_list1, s_list2, s_list3, s_tup1, s_tup2, decide_true, decide_false, if_true, if_false, s_ge, s_lt, s_le, s_gt, s_truth, List.set_cons_zero, List.set_cons_succ, s_mul, Bool.or_true, s_add1, s_add3, s_add4, s_sub, s_fdiv, Bool.and_true, Bool.false_eq_true, List.replicate, Nat.reduceAdd, Nat.reduceSub, Int.reduceAdd, Int.reduceSub, Int.reduceMul, fnL, constF, newCell, R.bind_stuck, F_law_at, b_law_at, N_law_at, Row.d, Row.at, (by decide : ¬ ("y" : Str) = "x")]
/-- who is in -/
def isIn (hd mark sc : Str) (bh : Bool) (m : Str) : Bool := (decide (sc = "all") || (decide (sc = "same") && decide (m = mark)) || (decide (sc = "ahead") && decide (m.cps.toList < mark.cps.toList))) && (!bh || (Builtin.Str.occurrences hd m 0 hd.length 1).isEmpty)
theorem isIn_mks {hd mark sc : Str} {bh : Bool} {m : Str} (h : IsMk m) : decide (m ∈ mks hd mark sc bh) = isIn hd mark sc bh m := by
  have : m ∈ (["a", "b", "c"] : List Str) := by rcases h with rfl | rfl | rfl <;> decide
  unfold mks isIn
  rw [Bool.eq_iff_iff, decide_eq_true_eq, List.mem_filter]
  exact ⟨fun x => x.2, fun x => ⟨this, x⟩⟩
end PG

namespace PG
open PySem MP
def scB (sc mark m : Str) : Bool := decide (sc = "all") || (decide (sc = "same") && decide (m = mark)) || (decide (sc = "ahead") && decide (m.cps.toList < mark.cps.toList))
theorem lt_str (x y : Str) : dCmp .lt (.str x) (.str y) = some (decide (x.cps.toList < y.cps.toList)) := rfl
theorem in_str (x y : Str) : dCmp .in_ (.str x) (.str y) = some (!(Builtin.Str.occurrences y x 0 y.length 1).isEmpty) := rfl
abbrev eIn : E := .or (.cmp .eq (.var 8) (.lit (.str "all"))) (.or (.and (.cmp .eq (.var 8) (.lit (.str "same"))) (.cmp .eq (.idx (.var 5) (.lit (.int 0))) (.var 2))) (.and (.cmp .eq (.var 8) (.lit (.str "ahead"))) (.cmp .lt (.idx (.var 5) (.lit (.int 0))) (.var 2))))
theorem eIn_ok {fn : Nat → FS} {ρ : Env'} {sc mark : Str} {r : Row} (h8 : immAt ρ 8 = some (.str sc)) (h5 : immAt ρ 5 = some r.d) (h2 : immAt ρ 2 = some (.str mark)) (hs : sc = "all" ∨ sc = "same" ∨ sc = "ahead") (S : Sto) : evE fn ρ eIn S = .ok (.bl (scB sc mark r.m)) S := by
  have e := rd0 r
  rcases hs with rfl | rfl | rfl
  · simp only [eIn, e_or, e_and, e_cmp, e_var, e_lit, e_idx, h8, h5, h2, R.of_some, R.bind_ok, s_eqS, s_map, decide_true, s_truth, if_true, scB, Bool.true_or]
  · by_cases hm : r.m = mark
    · simp only [eIn, e_or, e_and, e_cmp, e_var, e_lit, e_idx, h8, h5, h2, R.of_some, R.bind_ok, s_eqS, s_map, decide_true, s_truth, if_true, scB, e, hm, (by decide : ¬ ("same" : Str) = "all"), decide_false, Bool.false_eq_true, if_false, Bool.false_or, Bool.true_and, Bool.true_or]
    · simp only [eIn, e_or, e_and, e_cmp, e_var, e_lit, e_idx, h8, h5, h2, R.of_some, R.bind_ok, s_eqS, s_map, decide_true, s_truth, if_true, scB, e, hm, (by decide : ¬ ("same" : Str) = "all"), (by decide : ¬ ("same" : Str) = "ahead"), decide_false, Bool.false_eq_true, if_false, Bool.false_or, Bool.true_and, Bool.false_and]
  · simp only [eIn, e_or, e_and, e_cmp, e_var, e_lit, e_idx, h8, h5, h2, R.of_some, R.bind_ok, s_eqS, s_map, decide_true, s_truth, if_true, scB, e, (by decide : ¬ ("ahead" : Str) = "all"), (by decide : ¬ ("ahead" : Str) = "same"), decide_false, Bool.false_eq_true, if_false, Bool.false_or, Bool.true_and, Bool.false_and, lt_str]
abbrev eTest : E := .and (.var 10) (.and (.not (.and (.var 9) (.cmp .in_ (.idx (.var 5) (.lit (.int 0))) (.idx (.var 0) (.lit (.int 0)))))) (.isN true (.call 0 [.var 5, .var 7])))
theorem eTest_ok {ρ : Env'} {sc mark hd c : Str} {bh b : Bool} {r : Row} {x y : D} (h0 : immAt ρ 0 = some (.tup [.str hd, x, y])) (h5 : immAt ρ 5 = some r.d) (h7 : immAt ρ 7 = some (.str c)) (h9 : immAt ρ 9 = some (.bl bh)) (h10 : immAt ρ 10 = some (.bl b)) (hc : c = "x" ∨ c = "y") (S : Sto) :
    evE (fnL [F_law_at]) ρ eTest S = .ok (.bl (b && (!bh || (Builtin.Str.occurrences hd r.m 0 hd.length 1).isEmpty) && (r.at c).isSome)) S := by
  have e := rd0 r
  have ea := at_ok (r := r) hc S
  cases b <;> cases bh <;> cases ho : (Builtin.Str.occurrences hd r.m 0 hd.length 1).isEmpty <;> cases hr : r.at c
  all_goals
    rw [hr] at ea
    simp only [eTest, e_and, e_not, e_cmp, e_isN, e_call, evEs, e_var, e_lit, e_idx, h0, h5, h7, h9, h10, R.of_some, R.bind_ok, s_truth, s_ix1, atI_0, e, in_str, ho, s_map, if_true, if_false, Bool.false_eq_true, dNot, fnL, List.getElem?_cons_zero, ea, ent, isNb, Bool.not_true, Bool.not_false, Bool.true_and, Bool.false_and, Bool.true_or, Bool.false_or, Option.isSome, Bool.and_true, Bool.and_false]
theorem isIn_eq (hd mark sc : Str) (bh : Bool) (m : Str) : isIn hd mark sc bh m = (scB sc mark m && (!bh || (Builtin.Str.occurrences hd m 0 hd.length 1).isEmpty)) := rfl
theorem worked_loop {hd mark c sc : Str} {bh : Bool} {x y s1 s3 s6 : D} (hc : c = "x" ∨ c = "y") (hs : sc = "all" ∨ sc = "same" ∨ sc = "ahead") {S : Sto} : ∀ {rows : List Row} {found : List Int} {s5 s10 : MP.Slot}, found.length + rows.length ≤ 900 → ∃ t5 t10,
    forS (fnL [F_law_at]) (.one 5) [.asg 10 eIn, .ite eTest [.app 4 (.call 0 [.var 5, .var 7])] []] (rows.map Row.d) [.imm (.tup [.str hd, x, y]), .imm s1, .imm (.str mark), .imm s3, .own (.lst (found.map .int)), s5, .imm s6, .imm (.str c), .imm (.str sc), .imm (.bl bh), s10] S =
    .nx [.imm (.tup [.str hd, x, y]), .imm s1, .imm (.str mark), .imm s3, .own (.lst ((found ++ ((rows.filter fun r => isIn hd mark sc bh r.m).filterMap fun r => r.at c)).map .int)), t5, .imm s6, .imm (.str c), .imm (.str sc), .imm (.bl bh), t10] S
  | [], found, s5, s10, _ => ⟨s5, s10, by rw [List.filter_nil, List.filterMap_nil, List.append_nil]; rfl⟩
  | r :: rows, found, s5, s10, hl => by
    simp only [List.length_cons] at hl
    have e1 := eIn_ok (fn := fnL [F_law_at]) (ρ := [.imm (.tup [.str hd, x, y]), .imm s1, .imm (.str mark), .imm s3, .own (.lst (found.map .int)), .imm r.d, .imm s6, .imm (.str c), .imm (.str sc), .imm (.bl bh), s10]) (r := r) rfl rfl rfl hs S
    have e2 := eTest_ok (ρ := [.imm (.tup [.str hd, x, y]), .imm s1, .imm (.str mark), .imm s3, .own (.lst (found.map .int)), .imm r.d, .imm s6, .imm (.str c), .imm (.str sc), .imm (.bl bh), .imm (.bl (scB sc mark r.m))]) (r := r) (sc := sc) (mark := mark) rfl rfl rfl rfl rfl hc S
    rw [← isIn_eq] at e2
    have ea := at_ok (r := r) hc S
    cases hi : isIn hd mark sc bh r.m with
    | false =>
      obtain ⟨t5, t10, ev⟩ := worked_loop hc hs (hd := hd) (mark := mark) (bh := bh) (x := x) (y := y) (s1 := s1) (s3 := s3) (s6 := s6) (S := S) (rows := rows) (found := found) (s5 := .imm r.d) (s10 := .imm (.bl (scB sc mark r.m))) (by omega)
      refine ⟨t5, t10, ?_⟩
      rw [List.filter_cons, hi]
      simp only [Bool.false_eq_true, if_false]
      rw [← ev]
      refine forS_step rfl ?_
      rw [hi] at e2
      simp only [evSs, v_asg, v_ite, MP.setI, List.set_cons_succ, List.set_cons_zero, e1, RS.of_ok, RS.seq_nx, e2, Bool.false_and, s_truth, R.of_some, Bool.false_eq_true, if_false]
    | true =>
      rw [hi] at e2
      rw [List.filter_cons, hi]
      simp only [if_true, List.filterMap_cons]
      cases hr : r.at c with
      | none =>
        obtain ⟨t5, t10, ev⟩ := worked_loop hc hs (hd := hd) (mark := mark) (bh := bh) (x := x) (y := y) (s1 := s1) (s3 := s3) (s6 := s6) (S := S) (rows := rows) (found := found) (s5 := .imm r.d) (s10 := .imm (.bl (scB sc mark r.m))) (by omega)
        refine ⟨t5, t10, ?_⟩
        rw [← ev]
        refine forS_step rfl ?_
        rw [hr] at e2
        simp only [evSs, v_asg, v_ite, MP.setI, List.set_cons_succ, List.set_cons_zero, e1, RS.of_ok, RS.seq_nx, e2, Bool.true_and, Option.isSome, s_truth, R.of_some, Bool.false_eq_true, if_false]
      | some v =>
        obtain ⟨t5, t10, ev⟩ := worked_loop hc hs (hd := hd) (mark := mark) (bh := bh) (x := x) (y := y) (s1 := s1) (s3 := s3) (s6 := s6) (S := S) (rows := rows) (found := found ++ [v]) (s5 := .imm r.d) (s10 := .imm (.bl (scB sc mark r.m))) (by rw [List.length_append]; simp; omega)
        refine ⟨t5, t10, ?_⟩
        rw [List.append_assoc, List.singleton_append] at ev
        rw [← ev]
        refine forS_step rfl ?_
        rw [hr] at e2 ea
        have ha : dApp (found.map D.int) (.int v) = some (.lst (found.map D.int ++ [.int v])) := if_pos (by rw [BIGv, List.length_map]; omega)
        simp only [evSs, v_asg, v_ite, v_app, lstOwn, MP.setI, MP.setO, List.set_cons_succ, List.set_cons_zero, e1, RS.of_ok, RS.seq_nx, e2, Bool.true_and, Option.isSome, s_truth, R.of_some, if_true, List.getElem?_cons_succ, List.getElem?_cons_zero, e_call, evEs, e_var, immAt, R.bind_ok, fnL, ea, ent, ha, List.map_append, List.map_cons, List.map_nil]
theorem worked_ok {hd mark : Str} {u x y : D} {rows : List Row} (hu : IsW u) (hm : ∀ r ∈ rows, IsMk r.m) (hl : rows.length ≤ 900) (S : Sto) : F_law_worked [.tup [.str hd, x, y], u, .str mark, .lst (rows.map Row.d)] S = .ok (.int (wth hd mark u rows)) S := by
  cases hu with
  | int a b => simp only [evDef, startE, evSs, evEs, evO, evIf, evSrc, s_it1, s_it2, s_it3, e_lit, e_glob, e_var, e_pk, e_tup, e_lst, e_bin, e_star, e_neg, e_cmp, e_isN, e_chain, e_and, e_or, e_not, e_ite, e_idx, e_slice, e_fld, e_call, e_blt, e_isi, e_join, e_comp, e_dcomp, e_dic0, e_cidx, e_cell, e_cget, e_clen, e_ccat, v_asg, v_asgO, v_unp, v_par, v_setI, v_setK, v_aug, v_app, v_exp, v_ret, v_retO, v_retN, v_ite, v_for_, v_pass, v_never, v_frz, v_cset, immAt, pkAt, MP.setI, ownAt, lstOwn, dicOwn, MP.setO, List.map_cons, List.map_nil, List.length_cons, List.length_nil, List.cons_append, List.nil_append, List.getElem?_cons_zero, List.getElem?_cons_succ, R.of_some, R.of_none, R.bind_ok, RS.of_ok, RS.seq_nx, RS.seq_ret, nc0, nc1, nc2, nc3, nc4, nc5, nc6, nc7, nc8, nc9, s_bind, s_map, s_eqI, s_neI, s_eqS, s_neS, atI_0, atI_1, atI_2, atI_3, s_int1, s_int2, s_max, s_mod, s_ix1, s_ix2, s_len1, s_len2, s_list1, s_list2, s_list3, s_tup1, s_tup2, decide_true, decide_false, if_true, if_false, s_ge, s_lt, s_le, s_gt, s_truth, List.set_cons_zero, List.set_cons_succ, s_mul, Bool.or_true, s_add1, s_add3, s_add4, s_sub, s_fdiv, Bool.and_true, Bool.false_eq_true, List.replicate, Nat.reduceAdd, Nat.reduceSub, Int.reduceAdd, Int.reduceSub, Int.reduceMul, fnL, constF, newCell, R.bind_stuck, F_law_worked, b_law_worked, N_law_worked, isTys, List.any_cons, List.any_nil, isTy, Bool.or_false, wth]
  | @tup w c sc bh h1 h2 h3 =>
    obtain ⟨t5, t10, ev⟩ := worked_loop (hd := hd) (mark := mark) (bh := bh) (x := x) (y := y) (s1 := .tup [.str w, .str c, .str sc, .bl bh]) (s3 := .lst (rows.map Row.d)) (s6 := .str w) h2 h3 (S := S) (rows := rows) (found := []) (s5 := .no) (s10 := .no) (by simpa using hl)
    have ef : (rows.filter fun r => isIn hd mark sc bh r.m) = rows.filter fun r => decide (r.m ∈ mks hd mark sc bh) := by
      refine List.filter_congr fun r hr => ?_
      rw [isIn_mks (hm r hr)]
    rw [ef, List.nil_append] at ev
    rw [List.map_nil] at ev
    have hL0 := mkL_of (xs := []) (n := 0) rfl (by decide)
    have sm : ∀ ns : List Int, dBlt .sum [.lst (ns.map .int)] = some (.int ns.sum) := fun ns => by show (dInts _).map _ = _; rw [dInts_of]; rfl
    have ln : ∀ ns : List Int, dBlt .len [.lst (ns.map .int)] = some (.int (ns.length : Nat)) := fun ns => by show some (D.int ((ns.map D.int).length : Nat)) = _; rw [List.length_map]
    have it : items (.lst (rows.map Row.d)) = some (rows.map Row.d) := rfl
    rcases h1 with rfl | rfl
    · simp only [evDef, startE, evSs, evEs, evO, evIf, evSrc, s_it1, s_it2, s_it3, e_lit, e_glob, e_var, e_pk, e_tup, e_lst, e_bin, e_star, e_neg, e_cmp, e_isN, e_chain, e_and, e_or, e_not, e_ite, e_idx, e_slice, e_fld, e_call, e_blt, e_isi, e_join, e_comp, e_dcomp, e_dic0, e_cidx, e_cell, e_cget, e_clen, e_ccat, v_asg, v_asgO, v_unp, v_par, v_setI, v_setK, v_aug, v_app, v_exp, v_ret, v_retO, v_retN, v_ite, v_for_, v_pass, v_never, v_frz, v_cset, immAt, pkAt, MP.setI, ownAt, lstOwn, dicOwn, MP.setO, List.map_cons, List.map_nil, List.length_cons, List.length_nil, List.cons_append, List.nil_append, List.getElem?_cons_zero, List.getElem?_cons_succ, R.of_some, R.of_none, R.bind_ok, RS.of_ok, RS.seq_nx, RS.seq_ret, nc0, nc1, nc2, nc3, nc4, nc5, nc6, nc7, nc8, nc9, s_bind, s_map, s_eqI, s_neI, s_eqS, s_neS, atI_0, atI_1, atI_2, atI_3, s_int1, s_int2, s_max, s_mod, s_ix1, s_ix2, s_list1, s_list2, s_list3, s_tup1, s_tup2, decide_true, decide_false, if_true, if_false, s_ge, s_lt, s_le, s_gt, s_truth, List.set_cons_zero, List.set_cons_succ, s_mul, Bool.or_true, s_add1, s_add3, s_add4, s_sub, s_fdiv, Bool.and_true, Bool.false_eq_true, List.replicate, Nat.reduceAdd, Nat.reduceSub, Int.reduceAdd, Int.reduceSub, Int.reduceMul, fnL, constF, newCell, R.bind_stuck, F_law_worked, b_law_worked, N_law_worked, isTys, List.any_cons, List.any_nil, isTy, Bool.or_false, bindTg, setAll, hL0, isFr, ev, sm, wth, aggW, sumC]
    · simp only [evDef, startE, evSs, evEs, evO, evIf, evSrc, s_it1, s_it2, s_it3, e_lit, e_glob, e_var, e_pk, e_tup, e_lst, e_bin, e_star, e_neg, e_cmp, e_isN, e_chain, e_and, e_or, e_not, e_ite, e_idx, e_slice, e_fld, e_call, e_blt, e_isi, e_join, e_comp, e_dcomp, e_dic0, e_cidx, e_cell, e_cget, e_clen, e_ccat, v_asg, v_asgO, v_unp, v_par, v_setI, v_setK, v_aug, v_app, v_exp, v_ret, v_retO, v_retN, v_ite, v_for_, v_pass, v_never, v_frz, v_cset, immAt, pkAt, MP.setI, ownAt, lstOwn, dicOwn, MP.setO, List.map_cons, List.map_nil, List.length_cons, List.length_nil, List.cons_append, List.nil_append, List.getElem?_cons_zero, List.getElem?_cons_succ, R.of_some, R.of_none, R.bind_ok, RS.of_ok, RS.seq_nx, RS.seq_ret, nc0, nc1, nc2, nc3, nc4, nc5, nc6, nc7, nc8, nc9, s_bind, s_map, s_eqI, s_neI, s_eqS, s_neS, atI_0, atI_1, atI_2, atI_3, s_int1, s_int2, s_max, s_mod, s_ix1, s_ix2, s_list1, s_list2, s_list3, s_tup1, s_tup2, decide_true, decide_false, if_true, if_false, s_ge, s_lt, s_le, s_gt, s_truth, List.set_cons_zero, List.set_cons_succ, s_mul, Bool.or_true, s_add1, s_add3, s_add4, s_sub, s_fdiv, Bool.and_true, Bool.false_eq_true, List.replicate, Nat.reduceAdd, Nat.reduceSub, Int.reduceAdd, Int.reduceSub, Int.reduceMul, fnL, constF, newCell, R.bind_stuck, F_law_worked, b_law_worked, N_law_worked, isTys, List.any_cons, List.any_nil, isTy, Bool.or_false, bindTg, setAll, hL0, isFr, ev, ln, wth, aggW, cntC, (by decide : ¬ ("count" : Str) = "sum")]
end PG

namespace PG
open PySem MP
theorem rd1 (r : Row) : dIdx r.d (.int 1) = some (ent r.x) := atI_1 (D.str r.m) (ent r.x) [ent r.y]
theorem rd2 (r : Row) : dIdx r.d (.int 2) = some (ent r.y) := atI_2 (D.str r.m) (ent r.x) (ent r.y) []
abbrev bPre : List MP.St := [.asg 5 (.call 0 [.var 4, .idx (.var 1) (.lit (.int 1))]),
  .ite (.cmp .eq (.idx (.var 1) (.lit (.int 0))) (.lit (.str "add"))) [.asg 6 (.call 0 [.var 4, .idx (.var 1) (.lit (.int 2))]),
  .asg 7 (.ite (.or (.isN false (.var 5)) (.isN false (.var 6))) (.lit (.non)) (.bin .add (.var 5) (.var 6)))] [.asg 8 (.call 1 [.var 0, .idx (.var 1) (.lit (.int 2)), .idx (.var 4) (.lit (.int 0)), .var 2]),
  .asg 7 (.var 5),
  .ite (.or (.cmp .eq (.idx (.var 1) (.lit (.int 0))) (.lit (.str "put"))) (.and (.cmp .eq (.idx (.var 1) (.lit (.int 0))) (.lit (.str "fill"))) (.isN false (.var 5)))) [.asg 7 (.var 8)] [.ite (.and (.cmp .eq (.idx (.var 1) (.lit (.int 0))) (.lit (.str "less"))) (.isN true (.var 5))) [.asg 7 (.bin .sub (.var 5) (.var 8))] [.ite (.and (.cmp .eq (.idx (.var 1) (.lit (.int 0))) (.lit (.str "times"))) (.isN true (.var 5))) [.asg 7 (.bin .mul (.var 5) (.var 8))] []]]]]
abbrev bApp : MP.St := .app 3 (.ite (.cmp .eq (.idx (.var 1) (.lit (.int 1))) (.lit (.str "x"))) (.tup [.idx (.var 4) (.lit (.int 0)), .var 7, .idx (.var 4) (.lit (.int 2))]) (.tup [.idx (.var 4) (.lit (.int 0)), .idx (.var 4) (.lit (.int 1)), .var 7]))
abbrev bAfter : List MP.St := bPre ++ [bApp]
theorem evSs_append {fn : Nat → FS} {b : List MP.St} : ∀ {a : List MP.St} {ρ : Env'} {s : Sto}, evSs fn ρ (a ++ b) s = (evSs fn ρ a s).seq fun ρ s => evSs fn ρ b s
  | [], ρ, s => by rw [List.nil_append, evSs, RS.seq_nx]
  | x :: a, ρ, s => by
    rw [List.cons_append, evSs, evSs]
    cases evS fn ρ x s with
    | nx ρ' s' => rw [RS.seq_nx, RS.seq_nx]; exact evSs_append
    | ret d s' => rfl
    | exc x ρ' s' => rfl
    | stuck => rfl
theorem hT3 (x y z : D) : mkTup [x, y, z] = some (.tup [x, y, z]) := mkT_of (n := 3) rfl (by decide)
/-- the last line of a turn -/
theorem app_row {ρ : Env'} {fn : Nat → FS} {w c : Str} {u : D} {r : Row} {e : Option Int} {found : List Row} (h1 : immAt ρ 1 = some (.tup [.str w, .str c, u])) (h3 : lstOwn ρ 3 = some (found.map Row.d)) (h4 : immAt ρ 4 = some r.d) (h7 : immAt ρ 7 = some (ent e)) (hc : c = "x" ∨ c = "y") (hl : found.length ≤ 900) (S : Sto) :
    evSs fn ρ [.app 3 (.ite (.cmp .eq (.idx (.var 1) (.lit (.int 1))) (.lit (.str "x"))) (.tup [.idx (.var 4) (.lit (.int 0)), .var 7, .idx (.var 4) (.lit (.int 2))]) (.tup [.idx (.var 4) (.lit (.int 0)), .idx (.var 4) (.lit (.int 1)), .var 7]))] S = .nx (MP.setO ρ 3 (.lst ((found ++ [r.put c e]).map Row.d))) S := by
  have ha : ∀ x, dApp (found.map Row.d) x = some (.lst (found.map Row.d ++ [x])) := fun x => if_pos (by rw [BIGv, List.length_map]; omega)
  have a := rd0 r
  have b := rd1 r
  have d := rd2 r
  rcases hc with rfl | rfl
  · simp only [evSs, v_app, h3, R.of_some, RS.of_ok, e_ite, e_cmp, e_idx, e_var, e_lit, h1, R.bind_ok, s_ix1, atI_1, s_eqS, s_map, decide_true, s_truth, if_true, e_tup, evEs, h4, h7, a, b, d, hT3, ha, RS.seq_nx]
    rw [List.map_append]
    rfl
  · simp only [evSs, v_app, h3, R.of_some, RS.of_ok, e_ite, e_cmp, e_idx, e_var, e_lit, h1, R.bind_ok, s_ix1, atI_1, s_eqS, s_map, (by decide : ¬ ("y" : Str) = "x"), decide_false, s_truth, Bool.false_eq_true, if_false, e_tup, evEs, h4, h7, a, b, d, hT3, ha, RS.seq_nx]
    rw [List.map_append]
    rfl
/-- what stands in the row behind the step -/
def stE (hd : Str) (d : D) (rows : List Row) (r : Row) : Option Int := match d with
  | .tup [.str w, .str c, u] => if w = "add" then (match u with | .str e => addE (r.at c) (r.at e) | _ => none) else chg w (wth hd r.m u rows) (r.at c)
  | _ => none
def stC : D → Str
  | .tup [_, .str c, _] => c
  | _ => ""
theorem stepF_row {hd : Str} {d : D} {rows : List Row} (h : IsSt d) : stepF hd d rows = rows.map fun r => r.put (stC d) (stE hd d rows r) := by
  cases h with
  | add a b => rw [stepF_add]; rfl
  | put a b c => rw [stepF_w a]; rcases a with rfl | rfl | rfl | rfl <;> rfl
theorem pre_ok {hd : Str} {d x y : D} {rows found : List Row} {r : Row} {s5 s6 s7 s8 : MP.Slot} (h : IsSt d) (hr : ∀ r ∈ rows, IsMk r.m) (hm : IsMk r.m) (hs : isT d = true → ∀ c : Str, c = "x" ∨ c = "y" → ∀ i, r.at c = some i → small i = true) (hl2 : rows.length ≤ 900) (S : Sto) : ∃ t5 t6 t8,
    evSs (fnL [F_law_at, F_law_worked]) [.imm (.tup [.str hd, x, y]), .imm d, .imm (.lst (rows.map Row.d)), .own (.lst (found.map Row.d)), .imm r.d, s5, s6, s7, s8] bPre S =
    .nx [.imm (.tup [.str hd, x, y]), .imm d, .imm (.lst (rows.map Row.d)), .own (.lst (found.map Row.d)), .imm r.d, t5, t6, .imm (ent (stE hd d rows r)), t8] S := by
  have a0 := rd0 r
  cases h with
  | @add c e h1 h2 =>
    have e1 := at_ok (r := r) h1 S
    have e2 := at_ok (r := r) h2 S
    refine ⟨.imm (ent (r.at c)), .imm (ent (r.at e)), s8, ?_⟩
    have es : stE hd (.tup [.str "add", .str c, .str e]) rows r = addE (r.at c) (r.at e) := rfl
    rw [es]
    cases q1 : r.at c <;> cases q2 : r.at e
    all_goals
      rw [q1] at e1
      rw [q2] at e2
      simp only [evDef, startE, evSs, evEs, evO, evIf, evSrc, s_it1, s_it2, s_it3, e_lit, e_glob, e_var, e_pk, e_tup, e_lst, e_bin, e_star, e_neg, e_cmp, e_isN, e_chain, e_and, e_or, e_not, e_ite, e_idx, e_slice, e_fld, e_call, e_blt, e_isi, e_join, e_comp, e_dcomp, e_dic0, e_cidx, e_cell, e_cget, e_clen, e_ccat, v_asg, v_asgO, v_unp, v_par, v_setI, v_setK, v_aug, v_app, v_exp, v_ret, v_retO, v_retN, v_ite, v_for_, v_pass, v_never, v_frz, v_cset, immAt, pkAt, MP.setI, ownAt, lstOwn, dicOwn, MP.setO, List.map_cons, List.map_nil, List.length_cons, List.length_nil, List.cons_append, List.nil_append, List.getElem?_cons_zero, List.getElem?_cons_succ, R.of_some, R.of_none, R.bind_ok, RS.of_ok, RS.seq_nx, RS.seq_ret, nc0, nc1, nc2, nc3, nc4, nc5, nc6, nc7, nc8, nc9, s_bind, s_map, s_eqI, s_neI, s_eqS, s_neS, atI_0, atI_1, atI_2, atI_3, s_int1, s_int2, s_max, s_mod, s_ix1, s_ix2, s_len1, s_len2, s_list1, s_list2, s_list3, s_tup1, s_tup2, decide_true, decide_false, if_true, if_false, s_ge, s_lt, s_le, s_gt, s_truth, List.set_cons_zero, List.set_cons_succ, s_mul, Bool.or_true, s_add1, s_add3, s_add4, s_sub, s_fdiv, Bool.and_true, Bool.false_eq_true, List.replicate, Nat.reduceAdd, Nat.reduceSub, Int.reduceAdd, Int.reduceSub, Int.reduceMul, fnL, constF, newCell, R.bind_stuck, e1, e2, ent, isNb, Bool.not_false, Bool.not_true, addE]
  | @put w c u h1 h2 h3 =>
    have e1 := at_ok (r := r) h2 S
    have e2 := worked_ok (hd := hd) (mark := r.m) (x := x) (y := y) h3 hr hl2 S
    refine ⟨.imm (ent (r.at c)), s6, .imm (.int (wth hd r.m u rows)), ?_⟩
    have es : stE hd (.tup [.str w, .str c, u]) rows r = chg w (wth hd r.m u rows) (r.at c) := by rcases h1 with rfl | rfl | rfl | rfl <;> rfl
    rw [es]
    generalize wth hd r.m u rows = wv at e2 ⊢
    have sm : w = "times" → ∀ i, r.at c = some i → small i = true := fun e i hi => hs (by rw [e]; rfl) c h2 i hi
    rcases h1 with rfl | rfl | rfl | rfl <;> cases q1 : r.at c
    case inr.inr.inr.some i =>
      have sm := sm rfl i q1
      rw [q1] at e1
      simp only [evDef, startE, evSs, evEs, evO, evIf, evSrc, s_it1, s_it2, s_it3, e_lit, e_glob, e_var, e_pk, e_tup, e_lst, e_bin, e_star, e_neg, e_cmp, e_isN, e_chain, e_and, e_or, e_not, e_ite, e_idx, e_slice, e_fld, e_call, e_blt, e_isi, e_join, e_comp, e_dcomp, e_dic0, e_cidx, e_cell, e_cget, e_clen, e_ccat, v_asg, v_asgO, v_unp, v_par, v_setI, v_setK, v_aug, v_app, v_exp, v_ret, v_retO, v_retN, v_ite, v_for_, v_pass, v_never, v_frz, v_cset, immAt, pkAt, MP.setI, ownAt, lstOwn, dicOwn, MP.setO, List.map_cons, List.map_nil, List.length_cons, List.length_nil, List.cons_append, List.nil_append, List.getElem?_cons_zero, List.getElem?_cons_succ, R.of_some, R.of_none, R.bind_ok, RS.of_ok, RS.seq_nx, RS.seq_ret, nc0, nc1, nc2, nc3, nc4, nc5, nc6, nc7, nc8, nc9, s_bind, s_map, s_eqI, s_neI, s_eqS, s_neS, atI_0, atI_1, atI_2, atI_3, s_int1, s_int2, s_max, s_mod, s_ix1, s_ix2, s_len1, s_len2, s_list1, s_list2, s_list3, s_tup1, s_tup2, decide_true, decide_false, if_true, if_false, s_ge, s_lt, s_le, s_gt, s_truth, List.set_cons_zero, List.set_cons_succ, s_mul, Bool.or_true, s_add1, s_add3, s_add4, s_sub, s_fdiv, Bool.and_true, Bool.false_eq_true, List.replicate, Nat.reduceAdd, Nat.reduceSub, Int.reduceAdd, Int.reduceSub, Int.reduceMul, fnL, constF, newCell, R.bind_stuck, e1, e2, a0, ent, isNb, Bool.not_false, Bool.not_true, chg, Option.map_none, Option.map_some, sm, Bool.true_or, (by decide : ¬ ("fill" : Str) = "add"), (by decide : ¬ ("fill" : Str) = "put"), (by decide : ¬ ("fill" : Str) = "less"), (by decide : ¬ ("fill" : Str) = "times"), (by decide : ¬ ("less" : Str) = "add"), (by decide : ¬ ("less" : Str) = "put"), (by decide : ¬ ("less" : Str) = "fill"), (by decide : ¬ ("less" : Str) = "times"), (by decide : ¬ ("put" : Str) = "add"), (by decide : ¬ ("put" : Str) = "fill"), (by decide : ¬ ("put" : Str) = "less"), (by decide : ¬ ("put" : Str) = "times"), (by decide : ¬ ("times" : Str) = "add"), (by decide : ¬ ("times" : Str) = "put"), (by decide : ¬ ("times" : Str) = "fill"), (by decide : ¬ ("times" : Str) = "less")]
    all_goals
      rw [q1] at e1
      simp only [evDef, startE, evSs, evEs, evO, evIf, evSrc, s_it1, s_it2, s_it3, e_lit, e_glob, e_var, e_pk, e_tup, e_lst, e_bin, e_star, e_neg, e_cmp, e_isN, e_chain, e_and, e_or, e_not, e_ite, e_idx, e_slice, e_fld, e_call, e_blt, e_isi, e_join, e_comp, e_dcomp, e_dic0, e_cidx, e_cell, e_cget, e_clen, e_ccat, v_asg, v_asgO, v_unp, v_par, v_setI, v_setK, v_aug, v_app, v_exp, v_ret, v_retO, v_retN, v_ite, v_for_, v_pass, v_never, v_frz, v_cset, immAt, pkAt, MP.setI, ownAt, lstOwn, dicOwn, MP.setO, List.map_cons, List.map_nil, List.length_cons, List.length_nil, List.cons_append, List.nil_append, List.getElem?_cons_zero, List.getElem?_cons_succ, R.of_some, R.of_none, R.bind_ok, RS.of_ok, RS.seq_nx, RS.seq_ret, nc0, nc1, nc2, nc3, nc4, nc5, nc6, nc7, nc8, nc9, s_bind, s_map, s_eqI, s_neI, s_eqS, s_neS, atI_0, atI_1, atI_2, atI_3, s_int1, s_int2, s_max, s_mod, s_ix1, s_ix2, s_len1, s_len2, s_list1, s_list2, s_list3, s_tup1, s_tup2, decide_true, decide_false, if_true, if_false, s_ge, s_lt, s_le, s_gt, s_truth, List.set_cons_zero, List.set_cons_succ, s_mul, Bool.or_true, s_add1, s_add3, s_add4, s_sub, s_fdiv, Bool.and_true, Bool.false_eq_true, List.replicate, Nat.reduceAdd, Nat.reduceSub, Int.reduceAdd, Int.reduceSub, Int.reduceMul, fnL, constF, newCell, R.bind_stuck, e1, e2, a0, ent, isNb, Bool.not_false, Bool.not_true, chg, Option.map_none, Option.map_some, (by decide : ¬ ("fill" : Str) = "add"), (by decide : ¬ ("fill" : Str) = "put"), (by decide : ¬ ("fill" : Str) = "less"), (by decide : ¬ ("fill" : Str) = "times"), (by decide : ¬ ("less" : Str) = "add"), (by decide : ¬ ("less" : Str) = "put"), (by decide : ¬ ("less" : Str) = "fill"), (by decide : ¬ ("less" : Str) = "times"), (by decide : ¬ ("put" : Str) = "add"), (by decide : ¬ ("put" : Str) = "fill"), (by decide : ¬ ("put" : Str) = "less"), (by decide : ¬ ("put" : Str) = "times"), (by decide : ¬ ("times" : Str) = "add"), (by decide : ¬ ("times" : Str) = "put"), (by decide : ¬ ("times" : Str) = "fill"), (by decide : ¬ ("times" : Str) = "less")]
theorem after_turn {hd : Str} {d x y : D} {rows found : List Row} {r : Row} {s5 s6 s7 s8 : MP.Slot} (h : IsSt d) (hr : ∀ r ∈ rows, IsMk r.m) (hm : IsMk r.m) (hs : isT d = true → ∀ c : Str, c = "x" ∨ c = "y" → ∀ i, r.at c = some i → small i = true) (hl : found.length ≤ 900) (hl2 : rows.length ≤ 900) (S : Sto) : ∃ t5 t6 t7 t8,
    evSs (fnL [F_law_at, F_law_worked]) [.imm (.tup [.str hd, x, y]), .imm d, .imm (.lst (rows.map Row.d)), .own (.lst (found.map Row.d)), .imm r.d, s5, s6, s7, s8] bAfter S =
    .nx [.imm (.tup [.str hd, x, y]), .imm d, .imm (.lst (rows.map Row.d)), .own (.lst ((found ++ [r.put (stC d) (stE hd d rows r)]).map Row.d)), .imm r.d, t5, t6, t7, t8] S := by
  obtain ⟨t5, t6, t8, e⟩ := pre_ok (x := x) (y := y) (hd := hd) (found := found) (s5 := s5) (s6 := s6) (s7 := s7) (s8 := s8) h hr hm hs hl2 S
  refine ⟨t5, t6, .imm (ent (stE hd d rows r)), t8, ?_⟩
  rw [evSs_append, e, RS.seq_nx]
  have hd1 : ∃ w c u, d = .tup [.str w, .str c, u] ∧ (c = "x" ∨ c = "y") := by
    cases h with
    | add a b => exact ⟨_, _, _, rfl, a⟩
    | put a b c => exact ⟨_, _, _, rfl, b⟩
  obtain ⟨w, c, u, rfl, hc⟩ := hd1
  exact app_row (r := r) (found := found) rfl rfl rfl rfl hc hl S
theorem after_loop {hd : Str} {d x y : D} {rows : List Row} (h : IsSt d) (hr : ∀ r ∈ rows, IsMk r.m) (hs : isT d = true → Sm rows) (hl2 : rows.length ≤ 400) (S : Sto) : ∀ {rs found : List Row} {s4 s5 s6 s7 s8 : MP.Slot}, (∀ r ∈ rs, r ∈ rows) → found.length + rs.length ≤ 900 → ∃ t4 t5 t6 t7 t8,
    forS (fnL [F_law_at, F_law_worked]) (.one 4) bAfter (rs.map Row.d) [.imm (.tup [.str hd, x, y]), .imm d, .imm (.lst (rows.map Row.d)), .own (.lst (found.map Row.d)), s4, s5, s6, s7, s8] S =
    .nx [.imm (.tup [.str hd, x, y]), .imm d, .imm (.lst (rows.map Row.d)), .own (.lst ((found ++ rs.map fun r => r.put (stC d) (stE hd d rows r)).map Row.d)), t4, t5, t6, t7, t8] S
  | [], found, s4, s5, s6, s7, s8, _, _ => ⟨s4, s5, s6, s7, s8, by rw [show (([] : List Row).map fun r => r.put (stC d) (stE hd d rows r)) = [] from rfl, List.append_nil]; rfl⟩
  | r :: rs, found, s4, s5, s6, s7, s8, hm, hl => by
    simp only [List.length_cons] at hl
    have hin := hm r List.mem_cons_self
    obtain ⟨t5, t6, t7, t8, e⟩ := after_turn (x := x) (y := y) (hd := hd) (found := found) (s5 := s5) (s6 := s6) (s7 := s7) (s8 := s8) h hr (hr r hin) (fun e => hs e r hin) (by omega) (by omega) S
    obtain ⟨u4, u5, u6, u7, u8, ev⟩ := after_loop (x := x) (y := y) (hd := hd) h hr hs hl2 S (rs := rs) (found := found ++ [r.put (stC d) (stE hd d rows r)]) (s4 := .imm r.d) (s5 := t5) (s6 := t6) (s7 := t7) (s8 := t8) (fun q hq => hm q (List.mem_cons_of_mem r hq)) (by rw [List.length_append]; simp; omega)
    refine ⟨u4, u5, u6, u7, u8, ?_⟩
    rw [List.append_assoc, List.singleton_append] at ev
    rw [List.map_cons, List.map_cons, ← ev]
    exact forS_step rfl e
theorem after_ok {hd : Str} {d x y : D} {rows : List Row} (h : IsSt d) (hr : ∀ r ∈ rows, IsMk r.m) (hs : isT d = true → Sm rows) (hl : rows.length ≤ 400) (S : Sto) : F_law_after [.tup [.str hd, x, y], d, .lst (rows.map Row.d)] S = .ok (.lst ((stepF hd d rows).map Row.d)) S := by
  obtain ⟨t4, t5, t6, t7, t8, ev⟩ := after_loop (hd := hd) (x := x) (y := y) h hr hs hl S (rs := rows) (found := []) (s4 := .no) (s5 := .no) (s6 := .no) (s7 := .no) (s8 := .no) (fun r h => h) (by simp; omega)
  rw [List.nil_append, ← stepF_row h] at ev
  rw [List.map_nil] at ev
  simp only [bAfter, bPre, bApp, List.cons_append, List.nil_append] at ev
  have hL0 := mkL_of (xs := []) (n := 0) rfl (by decide)
  have it : items (.lst (rows.map Row.d)) = some (rows.map Row.d) := rfl
  have hb : b_law_after = [.asgO 3 (.lst []), .for_ (.one 4) (.val (.var 2)) bAfter, .retO 3] := rfl
  simp only [evDef, startE, evSs, evEs, evO, evIf, evSrc, s_it1, s_it2, s_it3, e_lit, e_glob, e_var, e_pk, e_tup, e_lst, e_bin, e_star, e_neg, e_cmp, e_isN, e_chain, e_and, e_or, e_not, e_ite, e_idx, e_slice, e_fld, e_call, e_blt, e_isi, e_join, e_comp, e_dcomp, e_dic0, e_cidx, e_cell, e_cget, e_clen, e_ccat, v_asg, v_asgO, v_unp, v_par, v_setI, v_setK, v_aug, v_app, v_exp, v_ret, v_retO, v_retN, v_ite, v_for_, v_pass, v_never, v_frz, v_cset, immAt, pkAt, MP.setI, ownAt, lstOwn, dicOwn, MP.setO, List.map_cons, List.map_nil, List.length_cons, List.length_nil, List.cons_append, List.nil_append, List.getElem?_cons_zero, List.getElem?_cons_succ, R.of_some, R.of_none, R.bind_ok, RS.of_ok, RS.seq_nx, RS.seq_ret, nc0, nc1, nc2, nc3, nc4, nc5, nc6, nc7, nc8, nc9, s_bind, s_map, s_eqI, s_neI, s_eqS, s_neS, atI_0, atI_1, atI_2, atI_3, s_int1, s_int2, s_max, s_mod, s_ix1, s_ix2, s_len1, s_len2, s_list1, s_list2, s_list3, s_tup1, s_tup2, decide_true, decide_false, if_true, if_false, s_ge, s_lt, s_le, s_gt, s_truth, List.set_cons_zero, List.set_cons_succ, s_mul, Bool.or_true, s_add1, s_add3, s_add4, s_sub, s_fdiv, Bool.and_true, Bool.false_eq_true, List.replicate, Nat.reduceAdd, Nat.reduceSub, Int.reduceAdd, Int.reduceSub, Int.reduceMul, fnL, constF, newCell, R.bind_stuck, F_law_after, hb, N_law_after, hL0, isFr, ev]
theorem law_done_ok {hd : Str} {y : D} {xs : List D} {rows : List Row} (hx : ∀ d ∈ xs, IsSt d) (hsm : SmOk hd xs rows) (hr : ∀ r ∈ rows, IsMk r.m) (hl : rows.length ≤ 400) (S : Sto) : F_law_done [.tup [.str hd, .lst xs, y], .lst (rows.map Row.d)] S = .ok (.lst ((stepsF hd xs rows).map Row.d)) S := by
  have run : Rs (F_law_done [.tup [.str hd, .lst xs, y], .lst (rows.map Row.d)] S) fun d S' => d = .lst ((stepsF hd xs rows).map Row.d) ∧ S' = S := by
    refine def_run ?_
    simp only [evDef, startE, evSs, evEs, evO, evIf, evSrc, s_it1, s_it2, s_it3, e_lit, e_glob, e_var, e_pk, e_tup, e_lst, e_bin, e_star, e_neg, e_cmp, e_isN, e_chain, e_and, e_or, e_not, e_ite, e_idx, e_slice, e_fld, e_call, e_blt, e_isi, e_join, e_comp, e_dcomp, e_dic0, e_cidx, e_cell, e_cget, e_clen, e_ccat, v_asg, v_asgO, v_unp, v_par, v_setI, v_setK, v_aug, v_app, v_exp, v_ret, v_retO, v_retN, v_ite, v_for_, v_pass, v_never, v_frz, v_cset, immAt, pkAt, MP.setI, ownAt, lstOwn, dicOwn, MP.setO, List.map_cons, List.map_nil, List.length_cons, List.length_nil, List.cons_append, List.nil_append, List.getElem?_cons_zero, List.getElem?_cons_succ, R.of_some, R.of_none, R.bind_ok, RS.of_ok, RS.seq_nx, RS.seq_ret, nc0, nc1, nc2, nc3, nc4, nc5, nc6, nc7, nc8, nc9, s_bind, s_map, s_eqI, s_neI, s_eqS, s_neS, atI_0, atI_1, atI_2, atI_3, s_int1, s_int2, s_max, s_mod, s_ix1, s_ix2, s_len1, s_len2, s_list1, s_list2, s_list3, s_tup1, s_tup2, decide_true, decide_false, if_true, if_false, s_ge, s_lt, s_le, s_gt, s_truth, List.set_cons_zero, List.set_cons_succ, s_mul, Bool.or_true, s_add1, s_add3, s_add4, s_sub, s_fdiv, Bool.and_true, Bool.false_eq_true, List.replicate, Nat.reduceAdd, Nat.reduceSub, Int.reduceAdd, Int.reduceSub, Int.reduceMul, fnL, constF, newCell, R.bind_stuck, b_law_done, N_law_done]
    refine Rt.seq (forS_run (fun ds ρ s => ∃ rs a, (∀ d ∈ ds, IsSt d) ∧ SmOk hd ds rs ∧ ρ = [.imm (.tup [.str hd, .lst xs, y]), .imm (.lst (rs.map Row.d)), a] ∧ (∀ r ∈ rs, IsMk r.m) ∧ rs.length ≤ 400 ∧ stepsF hd ds rs = stepsF hd xs rows ∧ s = S) ?_ ⟨rows, _, hx, hsm, rfl, hr, hl, rfl, rfl⟩) ?_
    · rintro d ds ρ s ⟨rs, a, q, qs, rfl, hm, hl, e, rfl⟩
      have q1 := q d List.mem_cons_self
      refine ⟨_, rfl, ?_⟩
      have e1 := after_ok (hd := hd) (x := .lst xs) (y := y) q1 hm qs.1 hl s
      simp only [evDef, startE, evSs, evEs, evO, evIf, evSrc, s_it1, s_it2, s_it3, e_lit, e_glob, e_var, e_pk, e_tup, e_lst, e_bin, e_star, e_neg, e_cmp, e_isN, e_chain, e_and, e_or, e_not, e_ite, e_idx, e_slice, e_fld, e_call, e_blt, e_isi, e_join, e_comp, e_dcomp, e_dic0, e_cidx, e_cell, e_cget, e_clen, e_ccat, v_asg, v_asgO, v_unp, v_par, v_setI, v_setK, v_aug, v_app, v_exp, v_ret, v_retO, v_retN, v_ite, v_for_, v_pass, v_never, v_frz, v_cset, immAt, pkAt, MP.setI, ownAt, lstOwn, dicOwn, MP.setO, List.map_cons, List.map_nil, List.length_cons, List.length_nil, List.cons_append, List.nil_append, List.getElem?_cons_zero, List.getElem?_cons_succ, R.of_some, R.of_none, R.bind_ok, RS.of_ok, RS.seq_nx, RS.seq_ret, nc0, nc1, nc2, nc3, nc4, nc5, nc6, nc7, nc8, nc9, s_bind, s_map, s_eqI, s_neI, s_eqS, s_neS, atI_0, atI_1, atI_2, atI_3, s_int1, s_int2, s_max, s_mod, s_ix1, s_ix2, s_len1, s_len2, s_list1, s_list2, s_list3, s_tup1, s_tup2, decide_true, decide_false, if_true, if_false, s_ge, s_lt, s_le, s_gt, s_truth, List.set_cons_zero, List.set_cons_succ, s_mul, Bool.or_true, s_add1, s_add3, s_add4, s_sub, s_fdiv, Bool.and_true, Bool.false_eq_true, List.replicate, Nat.reduceAdd, Nat.reduceSub, Int.reduceAdd, Int.reduceSub, Int.reduceMul, fnL, constF, newCell, R.bind_stuck, e1]
      exact Rt.nx ⟨stepF hd d rs, _, fun d hd => q d (List.mem_cons_of_mem _ hd), qs.2, rfl, stepF_mk q1 hm, by rw [stepF_len q1]; exact hl, e, rfl⟩
    · rintro ρ s ⟨rs, a, q, qs, rfl, hm, hl, e, rfl⟩
      simp only [evDef, startE, evSs, evEs, evO, evIf, evSrc, s_it1, s_it2, s_it3, e_lit, e_glob, e_var, e_pk, e_tup, e_lst, e_bin, e_star, e_neg, e_cmp, e_isN, e_chain, e_and, e_or, e_not, e_ite, e_idx, e_slice, e_fld, e_call, e_blt, e_isi, e_join, e_comp, e_dcomp, e_dic0, e_cidx, e_cell, e_cget, e_clen, e_ccat, v_asg, v_asgO, v_unp, v_par, v_setI, v_setK, v_aug, v_app, v_exp, v_ret, v_retO, v_retN, v_ite, v_for_, v_pass, v_never, v_frz, v_cset, immAt, pkAt, MP.setI, ownAt, lstOwn, dicOwn, MP.setO, List.map_cons, List.map_nil, List.length_cons, List.length_nil, List.cons_append, List.nil_append, List.getElem?_cons_zero, List.getElem?_cons_succ, R.of_some, R.of_none, R.bind_ok, RS.of_ok, RS.seq_nx, RS.seq_ret, nc0, nc1, nc2, nc3, nc4, nc5, nc6, nc7, nc8, nc9, s_bind, s_map, s_eqI, s_neI, s_eqS, s_neS, atI_0, atI_1, atI_2, atI_3, s_int1, s_int2, s_max, s_mod, s_ix1, s_ix2, s_len1, s_len2, s_list1, s_list2, s_list3, s_tup1, s_tup2, decide_true, decide_false, if_true, if_false, s_ge, s_lt, s_le, s_gt, s_truth, List.set_cons_zero, List.set_cons_succ, s_mul, Bool.or_true, s_add1, s_add3, s_add4, s_sub, s_fdiv, Bool.and_true, Bool.false_eq_true, List.replicate, Nat.reduceAdd, Nat.reduceSub, Int.reduceAdd, Int.reduceSub, Int.reduceMul, fnL, constF, newCell, R.bind_stuck]
      exact Rt.ret ⟨by rw [← e]; rfl, rfl⟩
  obtain ⟨d, S', e, rfl, rfl⟩ := run
  exact e
theorem law_told_ok {hd cs : Str} {xs : List D} {rows : List Row} (h2 : IsCols cs) (hx : ∀ d ∈ xs, IsSt d) (hsm : SmOk hd xs rows) (hr : ∀ r ∈ rows, IsMk r.m) (hl : rows.length ≤ 400) (S : Sto) : F_law_told [.tup [.str hd, .lst xs, .str cs], .lst (rows.map Row.d)] S = .ok (.lst (toldF hd xs cs rows)) S := by
  have e2 := law_done_ok (y := .str cs) hx hsm hr hl S
  have c1 : ∀ (a c d : MP.Slot), compS (fnL [F_law_done, F_law_at]) [3] (.one 3) (some (.cmp .nin (.idx (.var 3) (.lit (.int 0))) (.idx (.var 0) (.lit (.int 0))))) (.var 3) [.imm (.tup [.str hd, .lst xs, .str cs]), a, .no, c, d] ((stepsF hd xs rows).map Row.d) S = .ok ((stepsF hd xs rows).filterMap fun r => if kept hd r = true then some r.d else none) S := fun a c d => by
    refine compS_map Row.d _ fun r hr => ⟨_, rfl, kept hd r, ?_, ?_⟩
    · have := rd0 r
      simp only [evDef, startE, evSs, evEs, evO, evIf, evSrc, s_it1, s_it2, s_it3, e_lit, e_glob, e_var, e_pk, e_tup, e_lst, e_bin, e_star, e_neg, e_cmp, e_isN, e_chain, e_and, e_or, e_not, e_ite, e_idx, e_slice, e_fld, e_call, e_blt, e_isi, e_join, e_comp, e_dcomp, e_dic0, e_cidx, e_cell, e_cget, e_clen, e_ccat, v_asg, v_asgO, v_unp, v_par, v_setI, v_setK, v_aug, v_app, v_exp, v_ret, v_retO, v_retN, v_ite, v_for_, v_pass, v_never, v_frz, v_cset, immAt, pkAt, MP.setI, ownAt, lstOwn, dicOwn, MP.setO, List.map_cons, List.map_nil, List.length_cons, List.length_nil, List.cons_append, List.nil_append, List.getElem?_cons_zero, List.getElem?_cons_succ, R.of_some, R.of_none, R.bind_ok, RS.of_ok, RS.seq_nx, RS.seq_ret, nc0, nc1, nc2, nc3, nc4, nc5, nc6, nc7, nc8, nc9, s_bind, s_map, s_eqI, s_neI, s_eqS, s_neS, atI_0, atI_1, atI_2, atI_3, s_int1, s_int2, s_max, s_mod, s_ix1, s_ix2, s_len1, s_len2, s_list1, s_list2, s_list3, s_tup1, s_tup2, decide_true, decide_false, if_true, if_false, s_ge, s_lt, s_le, s_gt, s_truth, List.set_cons_zero, List.set_cons_succ, s_mul, Bool.or_true, s_add1, s_add3, s_add4, s_sub, s_fdiv, Bool.and_true, Bool.false_eq_true, List.replicate, Nat.reduceAdd, Nat.reduceSub, Int.reduceAdd, Int.reduceSub, Int.reduceMul, fnL, constF, newCell, R.bind_stuck, wipeE, this, nin_hd, kept]
    · split
      · exact ⟨r.d, by simp only [evDef, startE, evSs, evEs, evO, evIf, evSrc, s_it1, s_it2, s_it3, e_lit, e_glob, e_var, e_pk, e_tup, e_lst, e_bin, e_star, e_neg, e_cmp, e_isN, e_chain, e_and, e_or, e_not, e_ite, e_idx, e_slice, e_fld, e_call, e_blt, e_isi, e_join, e_comp, e_dcomp, e_dic0, e_cidx, e_cell, e_cget, e_clen, e_ccat, v_asg, v_asgO, v_unp, v_par, v_setI, v_setK, v_aug, v_app, v_exp, v_ret, v_retO, v_retN, v_ite, v_for_, v_pass, v_never, v_frz, v_cset, immAt, pkAt, MP.setI, ownAt, lstOwn, dicOwn, MP.setO, List.map_cons, List.map_nil, List.length_cons, List.length_nil, List.cons_append, List.nil_append, List.getElem?_cons_zero, List.getElem?_cons_succ, R.of_some, R.of_none, R.bind_ok, RS.of_ok, RS.seq_nx, RS.seq_ret, nc0, nc1, nc2, nc3, nc4, nc5, nc6, nc7, nc8, nc9, s_bind, s_map, s_eqI, s_neI, s_eqS, s_neS, atI_0, atI_1, atI_2, atI_3, s_int1, s_int2, s_max, s_mod, s_ix1, s_ix2, s_len1, s_len2, s_list1, s_list2, s_list3, s_tup1, s_tup2, decide_true, decide_false, if_true, if_false, s_ge, s_lt, s_le, s_gt, s_truth, List.set_cons_zero, List.set_cons_succ, s_mul, Bool.or_true, s_add1, s_add3, s_add4, s_sub, s_fdiv, Bool.and_true, Bool.false_eq_true, List.replicate, Nat.reduceAdd, Nat.reduceSub, Int.reduceAdd, Int.reduceSub, Int.reduceMul, fnL, constF, newCell, R.bind_stuck, wipeE], rfl⟩
      · rfl
  have g1 := fm_if (kept hd) Row.d (stepsF hd xs rows)
  have c2 : ∀ (a b c d : MP.Slot) (rs : List Row), compS (fnL [F_law_done, F_law_at]) [3] (.one 3) none (.blt .tuple [.comp [4] (.one 4) (.val (.idx (.var 0) (.lit (.int 2)))) none (.call 1 [.var 3, .var 4])]) [.imm (.tup [.str hd, .lst xs, .str cs]), a, b, c, d] (rs.map Row.d) S = .ok (rs.filterMap fun r => some (toldR cs r)) S := fun a b c d rs => by
    refine compS_map Row.d _ fun r hr => ⟨_, rfl, true, rfl, ?_⟩
    have c3 : ∀ (a b c d : MP.Slot), compS (fnL [F_law_done, F_law_at]) [4] (.one 4) none (.call 1 [.var 3, .var 4]) [a, b, c, .imm r.d, d] ((cols cs).map .str) S = .ok ((cols cs).filterMap fun q => some (ent (r.at q))) S := fun a b c d => by
      refine compS_map D.str _ fun q hq => ⟨_, rfl, true, rfl, ?_⟩
      have := at_ok (r := r) (cols_in h2 q hq) S
      exact ⟨ent (r.at q), by simp only [evDef, startE, evSs, evEs, evO, evIf, evSrc, s_it1, s_it2, s_it3, e_lit, e_glob, e_var, e_pk, e_tup, e_lst, e_bin, e_star, e_neg, e_cmp, e_isN, e_chain, e_and, e_or, e_not, e_ite, e_idx, e_slice, e_fld, e_call, e_blt, e_isi, e_join, e_comp, e_dcomp, e_dic0, e_cidx, e_cell, e_cget, e_clen, e_ccat, v_asg, v_asgO, v_unp, v_par, v_setI, v_setK, v_aug, v_app, v_exp, v_ret, v_retO, v_retN, v_ite, v_for_, v_pass, v_never, v_frz, v_cset, immAt, pkAt, MP.setI, ownAt, lstOwn, dicOwn, MP.setO, List.map_cons, List.map_nil, List.length_cons, List.length_nil, List.cons_append, List.nil_append, List.getElem?_cons_zero, List.getElem?_cons_succ, R.of_some, R.of_none, R.bind_ok, RS.of_ok, RS.seq_nx, RS.seq_ret, nc0, nc1, nc2, nc3, nc4, nc5, nc6, nc7, nc8, nc9, s_bind, s_map, s_eqI, s_neI, s_eqS, s_neS, atI_0, atI_1, atI_2, atI_3, s_int1, s_int2, s_max, s_mod, s_ix1, s_ix2, s_len1, s_len2, s_list1, s_list2, s_list3, s_tup1, s_tup2, decide_true, decide_false, if_true, if_false, s_ge, s_lt, s_le, s_gt, s_truth, List.set_cons_zero, List.set_cons_succ, s_mul, Bool.or_true, s_add1, s_add3, s_add4, s_sub, s_fdiv, Bool.and_true, Bool.false_eq_true, List.replicate, Nat.reduceAdd, Nat.reduceSub, Int.reduceAdd, Int.reduceSub, Int.reduceMul, fnL, constF, newCell, R.bind_stuck, wipeE, this], rfl⟩
    refine ⟨toldR cs r, ?_, rfl⟩
    simp only [evDef, startE, evSs, evEs, evO, evIf, evSrc, s_it1, s_it2, s_it3, e_lit, e_glob, e_var, e_pk, e_tup, e_lst, e_bin, e_star, e_neg, e_cmp, e_isN, e_chain, e_and, e_or, e_not, e_ite, e_idx, e_slice, e_fld, e_call, e_blt, e_isi, e_join, e_comp, e_dcomp, e_dic0, e_cidx, e_cell, e_cget, e_clen, e_ccat, v_asg, v_asgO, v_unp, v_par, v_setI, v_setK, v_aug, v_app, v_exp, v_ret, v_retO, v_retN, v_ite, v_for_, v_pass, v_never, v_frz, v_cset, immAt, pkAt, MP.setI, ownAt, lstOwn, dicOwn, MP.setO, List.map_cons, List.map_nil, List.length_cons, List.length_nil, List.cons_append, List.nil_append, List.getElem?_cons_zero, List.getElem?_cons_succ, R.of_some, R.of_none, R.bind_ok, RS.of_ok, RS.seq_nx, RS.seq_ret, nc0, nc1, nc2, nc3, nc4, nc5, nc6, nc7, nc8, nc9, s_bind, s_map, s_eqI, s_neI, s_eqS, s_neS, atI_0, atI_1, atI_2, atI_3, s_int1, s_int2, s_max, s_mod, s_ix1, s_ix2, s_len1, s_len2, s_list1, s_list2, s_list3, s_tup1, s_tup2, decide_true, decide_false, if_true, if_false, s_ge, s_lt, s_le, s_gt, s_truth, List.set_cons_zero, List.set_cons_succ, s_mul, Bool.or_true, s_add1, s_add3, s_add4, s_sub, s_fdiv, Bool.and_true, Bool.false_eq_true, List.replicate, Nat.reduceAdd, Nat.reduceSub, Int.reduceAdd, Int.reduceSub, Int.reduceMul, fnL, constF, newCell, R.bind_stuck, wipeE, cols_it h2, c3, fm_some, toldR]
  rw [g1] at c1
  simp only [evDef, startE, evSs, evEs, evO, evIf, evSrc, s_it1, s_it2, s_it3, e_lit, e_glob, e_var, e_pk, e_tup, e_lst, e_bin, e_star, e_neg, e_cmp, e_isN, e_chain, e_and, e_or, e_not, e_ite, e_idx, e_slice, e_fld, e_call, e_blt, e_isi, e_join, e_comp, e_dcomp, e_dic0, e_cidx, e_cell, e_cget, e_clen, e_ccat, v_asg, v_asgO, v_unp, v_par, v_setI, v_setK, v_aug, v_app, v_exp, v_ret, v_retO, v_retN, v_ite, v_for_, v_pass, v_never, v_frz, v_cset, immAt, pkAt, MP.setI, ownAt, lstOwn, dicOwn, MP.setO, List.map_cons, List.map_nil, List.length_cons, List.length_nil, List.cons_append, List.nil_append, List.getElem?_cons_zero, List.getElem?_cons_succ, R.of_some, R.of_none, R.bind_ok, RS.of_ok, RS.seq_nx, RS.seq_ret, nc0, nc1, nc2, nc3, nc4, nc5, nc6, nc7, nc8, nc9, s_bind, s_map, s_eqI, s_neI, s_eqS, s_neS, atI_0, atI_1, atI_2, atI_3, s_int1, s_int2, s_max, s_mod, s_ix1, s_ix2, s_len1, s_len2, s_list1, s_list2, s_list3, s_tup1, s_tup2, decide_true, decide_false, if_true, if_false, s_ge, s_lt, s_le, s_gt, s_truth, List.set_cons_zero, List.set_cons_succ, s_mul, Bool.or_true, s_add1, s_add3, s_add4, s_sub, s_fdiv, Bool.and_true, Bool.false_eq_true, List.replicate, Nat.reduceAdd, Nat.reduceSub, Int.reduceAdd, Int.reduceSub, Int.reduceMul, fnL, constF, newCell, R.bind_stuck, F_law_told, b_law_told, N_law_told, e2, c1, c2, fm_some, toldF]
/-! ### step by step -/
theorem int_in {i m : Int} (h : 0 ≤ i) (h' : i ≤ m) (S : Sto) : F_is_integer [.int i, .int 0, .int m] S = .ok (.bl true) S := by
  simp only [evDef, startE, evSs, evEs, evO, evIf, evSrc, s_it1, s_it2, s_it3, e_lit, e_glob, e_var, e_pk, e_tup, e_lst, e_bin, e_star, e_neg, e_cmp, e_isN, e_chain, e_and, e_or, e_not, e_ite, e_idx, e_slice, e_fld, e_call, e_blt, e_isi, e_join, e_comp, e_dcomp, e_dic0, e_cidx, e_cell, e_cget, e_clen, e_ccat, v_asg, v_asgO, v_unp, v_par, v_setI, v_setK, v_aug, v_app, v_exp, v_ret, v_retO, v_retN, v_ite, v_for_, v_pass, v_never, v_frz, v_cset, immAt, pkAt, MP.setI, ownAt, lstOwn, dicOwn, MP.setO, List.map_cons, List.map_nil, List.length_cons, List.length_nil, List.cons_append, List.nil_append, List.getElem?_cons_zero, List.getElem?_cons_succ, R.of_some, R.of_none, R.bind_ok, RS.of_ok, RS.seq_nx, RS.seq_ret, nc0, nc1, nc2, nc3, nc4, nc5, nc6, nc7, nc8, nc9, s_bind, s_map, s_eqI, s_neI, s_eqS, s_neS, atI_0, atI_1, atI_2, atI_3, s_int1, s_int2, s_max, s_mod, s_ix1, s_ix2, s_len1, s_len2, s_list1, s_list2, s_list3, s_tup1, s_tup2, decide_true, decide_false, if_true, if_false, s_ge, s_lt, s_le, s_gt, s_truth, List.set_cons_zero, List.set_cons_succ, s_mul, Bool.or_true, s_add1, s_add3, s_add4, s_sub, s_fdiv, Bool.and_true, Bool.false_eq_true, List.replicate, Nat.reduceAdd, Nat.reduceSub, Int.reduceAdd, Int.reduceSub, Int.reduceMul, fnL, constF, newCell, R.bind_stuck, F_is_integer, b_is_integer, N_is_integer, isTys, List.any_cons, List.any_nil, isTy, dNot, Bool.or_false, Bool.not_true, isNb, Bool.not_false, h, h', s_ge, s_le]
theorem done_by_ok {hd cs : Str} {xs : List D} {rows : List Row} {n : Nat} (h1 : IsHeld hd) (hn : n ≤ xs.length) (hp : ∀ d ∈ xs, IsSt d) (hsm : SmOk hd xs rows) (hr : ∀ r ∈ rows, IsMk r.m) (S : Sto) :
    F_done_by [.prg hd xs cs, .lst (rows.map Row.d), .int n] S = .ok (.lst ((stepsF hd (xs.take n) rows).map Row.d)) S := by
  have e1 := check_ok hr S
  have e2 := stepped_ok (cs := cs) (n := n) h1 hp (sm_take n hsm) hr S
  have e3 := int_in (i := (n : Int)) (m := (xs.length : Int)) (by omega) (by omega) S
  have f0 : dFld .rows (.prg hd xs cs) = some (.tup xs) := rfl
  simp only [evDef, startE, evSs, evEs, evO, evIf, evSrc, s_it1, s_it2, s_it3, e_lit, e_glob, e_var, e_pk, e_tup, e_lst, e_bin, e_star, e_neg, e_cmp, e_isN, e_chain, e_and, e_or, e_not, e_ite, e_idx, e_slice, e_fld, e_call, e_blt, e_isi, e_join, e_comp, e_dcomp, e_dic0, e_cidx, e_cell, e_cget, e_clen, e_ccat, v_asg, v_asgO, v_unp, v_par, v_setI, v_setK, v_aug, v_app, v_exp, v_ret, v_retO, v_retN, v_ite, v_for_, v_pass, v_never, v_frz, v_cset, immAt, pkAt, MP.setI, ownAt, lstOwn, dicOwn, MP.setO, List.map_cons, List.map_nil, List.length_cons, List.length_nil, List.cons_append, List.nil_append, List.getElem?_cons_zero, List.getElem?_cons_succ, R.of_some, R.of_none, R.bind_ok, RS.of_ok, RS.seq_nx, RS.seq_ret, nc0, nc1, nc2, nc3, nc4, nc5, nc6, nc7, nc8, nc9, s_bind, s_map, s_eqI, s_neI, s_eqS, s_neS, atI_0, atI_1, atI_2, atI_3, s_int1, s_int2, s_max, s_mod, s_ix1, s_ix2, s_len1, s_len2, s_list1, s_list2, s_list3, s_tup1, s_tup2, decide_true, decide_false, if_true, if_false, s_ge, s_lt, s_le, s_gt, s_truth, List.set_cons_zero, List.set_cons_succ, s_mul, Bool.or_true, s_add1, s_add3, s_add4, s_sub, s_fdiv, Bool.and_true, Bool.false_eq_true, List.replicate, Nat.reduceAdd, Nat.reduceSub, Int.reduceAdd, Int.reduceSub, Int.reduceMul, fnL, constF, newCell, R.bind_stuck, F_done_by, b_done_by, N_done_by, e1, e2, e3, f0, dNot, Bool.not_true]
theorem done_by_bad {hd cs : Str} {xs : List D} {rows : List Row} {d : D} (hr : ∀ r ∈ rows, IsMk r.m) (S : Sto) (hb : F_is_integer [d, .int 0, .int xs.length] S = .ok (.bl false) S) :
    F_done_by [.prg hd xs cs, .lst (rows.map Row.d), d] S = .exc ⟨5, some d⟩ S := by
  have e1 := check_ok hr S
  have f0 : dFld .rows (.prg hd xs cs) = some (.tup xs) := rfl
  simp only [evDef, startE, evSs, evEs, evO, evIf, evSrc, s_it1, s_it2, s_it3, e_lit, e_glob, e_var, e_pk, e_tup, e_lst, e_bin, e_star, e_neg, e_cmp, e_isN, e_chain, e_and, e_or, e_not, e_ite, e_idx, e_slice, e_fld, e_call, e_blt, e_isi, e_join, e_comp, e_dcomp, e_dic0, e_cidx, e_cell, e_cget, e_clen, e_ccat, v_asg, v_asgO, v_unp, v_par, v_setI, v_setK, v_aug, v_app, v_exp, v_ret, v_retO, v_retN, v_ite, v_for_, v_pass, v_never, v_frz, v_cset, immAt, pkAt, MP.setI, ownAt, lstOwn, dicOwn, MP.setO, List.map_cons, List.map_nil, List.length_cons, List.length_nil, List.cons_append, List.nil_append, List.getElem?_cons_zero, List.getElem?_cons_succ, R.of_some, R.of_none, R.bind_ok, RS.of_ok, RS.seq_nx, RS.seq_ret, nc0, nc1, nc2, nc3, nc4, nc5, nc6, nc7, nc8, nc9, s_bind, s_map, s_eqI, s_neI, s_eqS, s_neS, atI_0, atI_1, atI_2, atI_3, s_int1, s_int2, s_max, s_mod, s_ix1, s_ix2, s_len1, s_len2, s_list1, s_list2, s_list3, s_tup1, s_tup2, decide_true, decide_false, if_true, if_false, s_ge, s_lt, s_le, s_gt, s_truth, List.set_cons_zero, List.set_cons_succ, s_mul, Bool.or_true, s_add1, s_add3, s_add4, s_sub, s_fdiv, Bool.and_true, Bool.false_eq_true, List.replicate, Nat.reduceAdd, Nat.reduceSub, Int.reduceAdd, Int.reduceSub, Int.reduceMul, fnL, constF, newCell, R.bind_stuck, F_done_by, b_done_by, N_done_by, e1, hb, f0, dNot, Bool.not_false, v_rais1, RS.seq_exc]
theorem refused_ok {hd cs : Str} {xs : List D} {rows : List Row} {d : D} (hr : ∀ r ∈ rows, IsMk r.m) (S : Sto) (hb : F_is_integer [d, .int 0, .int xs.length] S = .ok (.bl false) S) :
    F_law_refused [.prg hd xs cs, .lst (rows.map Row.d), d] S = .ok (.lst [d]) S := by
  have e1 := done_by_bad (hd := hd) (cs := cs) hr S hb
  have hL : mkLst [d] = some (.lst [d]) := mkL_of (n := 1) rfl (by decide)
  have c5 : ([5] : List Nat).contains 5 = true := rfl
  have sx : subX 5 5 = true := rfl
  simp only [evDef, startE, evSs, evEs, evO, evIf, evSrc, s_it1, s_it2, s_it3, e_lit, e_glob, e_var, e_pk, e_tup, e_lst, e_bin, e_star, e_neg, e_cmp, e_isN, e_chain, e_and, e_or, e_not, e_ite, e_idx, e_slice, e_fld, e_call, e_blt, e_isi, e_join, e_comp, e_dcomp, e_dic0, e_cidx, e_cell, e_cget, e_clen, e_ccat, v_asg, v_asgO, v_unp, v_par, v_setI, v_setK, v_aug, v_app, v_exp, v_ret, v_retO, v_retN, v_ite, v_for_, v_pass, v_never, v_frz, v_cset, immAt, pkAt, MP.setI, ownAt, lstOwn, dicOwn, MP.setO, List.map_cons, List.map_nil, List.length_cons, List.length_nil, List.cons_append, List.nil_append, List.getElem?_cons_zero, List.getElem?_cons_succ, R.of_some, R.of_none, R.bind_ok, RS.of_ok, RS.seq_nx, RS.seq_ret, nc0, nc1, nc2, nc3, nc4, nc5, nc6, nc7, nc8, nc9, s_bind, s_map, s_eqI, s_neI, s_eqS, s_neS, atI_0, atI_1, atI_2, atI_3, s_int1, s_int2, s_max, s_mod, s_ix1, s_ix2, s_len1, s_len2, s_list1, s_list2, s_list3, s_tup1, s_tup2, decide_true, decide_false, if_true, if_false, s_ge, s_lt, s_le, s_gt, s_truth, List.set_cons_zero, List.set_cons_succ, s_mul, Bool.or_true, s_add1, s_add3, s_add4, s_sub, s_fdiv, Bool.and_true, Bool.false_eq_true, List.replicate, Nat.reduceAdd, Nat.reduceSub, Int.reduceAdd, Int.reduceSub, Int.reduceMul, fnL, constF, newCell, R.bind_stuck, F_law_refused, b_law_refused, N_law_refused, v_try, e1, RS.of_exc, RS.seq_exc, evHs, evHd, evHSt, c5, sx, evEH, evEAs, evEA, Option.bind_some, Option.map_some, hL]
end PG

namespace PG
open PySem MP
abbrev oddR : List D := [.non, .int 5, .str "row", .tup [.str "a", .int 1], .tup [.str "a", .int 1, .int 2, .int 3], .lst [.str "a", .int 1, .int 2], .tup [.str "d", .int 1, .int 2], .tup [.str "ab", .int 1, .int 2], .tup [.str "", .int 1, .int 2], .tup [.str "a", .bl true, .int 1], .tup [.str "a", .int 1, .str "2"], .tup [.str "a", .int 1, .tup [.int 1]], .tup [.non, .int 1, .int 2], .tup [.int 1, .int 1, .int 2], .dic [], .tup [], .tup [.str "a", .lst [], .non], .tup [.str "b", .non, .bl false]]
theorem odd_run (S : Sto) : oddR.map (fun d => F_is_row [d] S) = oddR.map (fun _ => .ok (.bl false) S) := by kernel_rfl
theorem odd_row {d : D} (h : d ∈ oddR) (S : Sto) : F_is_row [d] S = .ok (.bl false) S := List.map_inj_left.mp (odd_run S) d h
abbrev fkT : Nat → FS := fnL [(fun _ _ => .stuck), F_is_row]
abbrev bCk : List MP.St := [.ite (.not (.call 1 [.var 2])) [.rais 0 1 [.var 1]] []]
theorem ck_loop {x d : D} {ts : List D} {S : Sto} (hd : F_is_row [d] S = .ok (.bl false) S) : ∀ {rows : List Row} {k : Nat} {a b : MP.Slot}, (∀ r ∈ rows, IsMk r.m) →
    forS fkT (.tup [1, 2]) bCk (enumFrom' k (rows.map Row.d ++ d :: ts)) [.imm x, a, b] S = .exc ⟨1, some (.int ((k + rows.length : Nat) : Int))⟩ [.imm x, .imm (.int ((k + rows.length : Nat) : Int)), .imm d] S
  | [], k, a, b, _ => by
    unfold forS
    simp only [evDef, startE, evSs, evEs, evO, evIf, evSrc, s_it1, s_it2, s_it3, e_lit, e_glob, e_var, e_pk, e_tup, e_lst, e_bin, e_star, e_neg, e_cmp, e_isN, e_chain, e_and, e_or, e_not, e_ite, e_idx, e_slice, e_fld, e_call, e_blt, e_isi, e_join, e_comp, e_dcomp, e_dic0, e_cidx, e_cell, e_cget, e_clen, e_ccat, v_asg, v_asgO, v_unp, v_par, v_setI, v_setK, v_aug, v_app, v_exp, v_ret, v_retO, v_retN, v_ite, v_for_, v_pass, v_never, v_frz, v_cset, immAt, pkAt, MP.setI, ownAt, lstOwn, dicOwn, MP.setO, List.map_cons, List.map_nil, List.length_cons, List.length_nil, List.cons_append, List.nil_append, List.getElem?_cons_zero, List.getElem?_cons_succ, R.of_some, R.of_none, R.bind_ok, RS.of_ok, RS.seq_nx, RS.seq_ret, nc0, nc1, nc2, nc3, nc4, nc5, nc6, nc7, nc8, nc9, s_bind, s_map, s_eqI, s_neI, s_eqS, s_neS, atI_0, atI_1, atI_2, atI_3, s_int1, s_int2, s_max, s_mod, s_ix1, s_ix2, s_len1, s_len2, s_list1, s_list2, s_list3, s_tup1, s_tup2, decide_true, decide_false, if_true, if_false, s_ge, s_lt, s_le, s_gt, s_truth, List.set_cons_zero, List.set_cons_succ, s_mul, Bool.or_true, s_add1, s_add3, s_add4, s_sub, s_fdiv, Bool.and_true, Bool.false_eq_true, List.replicate, Nat.reduceAdd, Nat.reduceSub, Int.reduceAdd, Int.reduceSub, Int.reduceMul, fnL, constF, newCell, R.bind_stuck, forLoop, enumFrom', bindTg, setAll, hd, dNot, Bool.not_false, v_rais1, RS.seq_exc, Nat.add_zero]
  | r :: rs, k, a, b, h => by
    have ih := ck_loop hd (ts := ts) (x := x) (rows := rs) (k := k + 1) (a := .imm (.int (k : Nat))) (b := .imm r.d) fun r hr => h r (List.mem_cons_of_mem _ hr)
    have e1 := row_ok (h r List.mem_cons_self) S
    have ek : k + (r :: rs).length = k + 1 + rs.length := by rw [List.length_cons]; omega
    rw [ek, ← ih]
    rw [List.map_cons, List.cons_append, enumFrom']
    refine forS_step rfl ?_
    simp only [evDef, startE, evSs, evEs, evO, evIf, evSrc, s_it1, s_it2, s_it3, e_lit, e_glob, e_var, e_pk, e_tup, e_lst, e_bin, e_star, e_neg, e_cmp, e_isN, e_chain, e_and, e_or, e_not, e_ite, e_idx, e_slice, e_fld, e_call, e_blt, e_isi, e_join, e_comp, e_dcomp, e_dic0, e_cidx, e_cell, e_cget, e_clen, e_ccat, v_asg, v_asgO, v_unp, v_par, v_setI, v_setK, v_aug, v_app, v_exp, v_ret, v_retO, v_retN, v_ite, v_for_, v_pass, v_never, v_frz, v_cset, immAt, pkAt, MP.setI, ownAt, lstOwn, dicOwn, MP.setO, List.map_cons, List.map_nil, List.length_cons, List.length_nil, List.cons_append, List.nil_append, List.getElem?_cons_zero, List.getElem?_cons_succ, R.of_some, R.of_none, R.bind_ok, RS.of_ok, RS.seq_nx, RS.seq_ret, nc0, nc1, nc2, nc3, nc4, nc5, nc6, nc7, nc8, nc9, s_bind, s_map, s_eqI, s_neI, s_eqS, s_neS, atI_0, atI_1, atI_2, atI_3, s_int1, s_int2, s_max, s_mod, s_ix1, s_ix2, s_len1, s_len2, s_list1, s_list2, s_list3, s_tup1, s_tup2, decide_true, decide_false, if_true, if_false, s_ge, s_lt, s_le, s_gt, s_truth, List.set_cons_zero, List.set_cons_succ, s_mul, Bool.or_true, s_add1, s_add3, s_add4, s_sub, s_fdiv, Bool.and_true, Bool.false_eq_true, List.replicate, Nat.reduceAdd, Nat.reduceSub, Int.reduceAdd, Int.reduceSub, Int.reduceMul, fnL, constF, newCell, R.bind_stuck, setAll, e1, dNot, Bool.not_true]
theorem check_bad {d : D} {rows : List Row} {ts : List D} (hr : ∀ r ∈ rows, IsMk r.m) (S : Sto) (hd : F_is_row [d] S = .ok (.bl false) S) : F_check_table [.lst (rows.map Row.d ++ d :: ts)] S = .exc ⟨1, some (.int (rows.length : Nat))⟩ S := by
  have e := ck_loop (x := .lst (rows.map Row.d ++ d :: ts)) (ts := ts) hd (rows := rows) (k := 0) (a := .no) (b := .no) hr
  rw [Nat.zero_add] at e
  simp only [evDef, startE, evSs, evEs, evO, evIf, evSrc, s_it1, s_it2, s_it3, e_lit, e_glob, e_var, e_pk, e_tup, e_lst, e_bin, e_star, e_neg, e_cmp, e_isN, e_chain, e_and, e_or, e_not, e_ite, e_idx, e_slice, e_fld, e_call, e_blt, e_isi, e_join, e_comp, e_dcomp, e_dic0, e_cidx, e_cell, e_cget, e_clen, e_ccat, v_asg, v_asgO, v_unp, v_par, v_setI, v_setK, v_aug, v_app, v_exp, v_ret, v_retO, v_retN, v_ite, v_for_, v_pass, v_never, v_frz, v_cset, immAt, pkAt, MP.setI, ownAt, lstOwn, dicOwn, MP.setO, List.map_cons, List.map_nil, List.length_cons, List.length_nil, List.cons_append, List.nil_append, List.getElem?_cons_zero, List.getElem?_cons_succ, R.of_some, R.of_none, R.bind_ok, RS.of_ok, RS.seq_nx, RS.seq_ret, nc0, nc1, nc2, nc3, nc4, nc5, nc6, nc7, nc8, nc9, s_bind, s_map, s_eqI, s_neI, s_eqS, s_neS, atI_0, atI_1, atI_2, atI_3, s_int1, s_int2, s_max, s_mod, s_ix1, s_ix2, s_len1, s_len2, s_list1, s_list2, s_list3, s_tup1, s_tup2, decide_true, decide_false, if_true, if_false, s_ge, s_lt, s_le, s_gt, s_truth, List.set_cons_zero, List.set_cons_succ, s_mul, Bool.or_true, s_add1, s_add3, s_add4, s_sub, s_fdiv, Bool.and_true, Bool.false_eq_true, List.replicate, Nat.reduceAdd, Nat.reduceSub, Int.reduceAdd, Int.reduceSub, Int.reduceMul, fnL, constF, newCell, R.bind_stuck, F_check_table, b_check_table, N_check_table, isTys, List.any_cons, List.any_nil, isTy, dNot, Bool.or_false, Bool.not_true, lstItems, seqItems]
  rw [e]
  rfl
theorem check_tup (xs : List D) (S : Sto) : F_check_table [.tup xs] S = .exc ⟨1, some (.int (-1))⟩ S := by
  simp only [evDef, startE, evSs, evEs, evO, evIf, evSrc, s_it1, s_it2, s_it3, e_lit, e_glob, e_var, e_pk, e_tup, e_lst, e_bin, e_star, e_neg, e_cmp, e_isN, e_chain, e_and, e_or, e_not, e_ite, e_idx, e_slice, e_fld, e_call, e_blt, e_isi, e_join, e_comp, e_dcomp, e_dic0, e_cidx, e_cell, e_cget, e_clen, e_ccat, v_asg, v_asgO, v_unp, v_par, v_setI, v_setK, v_aug, v_app, v_exp, v_ret, v_retO, v_retN, v_ite, v_for_, v_pass, v_never, v_frz, v_cset, immAt, pkAt, MP.setI, ownAt, lstOwn, dicOwn, MP.setO, List.map_cons, List.map_nil, List.length_cons, List.length_nil, List.cons_append, List.nil_append, List.getElem?_cons_zero, List.getElem?_cons_succ, R.of_some, R.of_none, R.bind_ok, RS.of_ok, RS.seq_nx, RS.seq_ret, nc0, nc1, nc2, nc3, nc4, nc5, nc6, nc7, nc8, nc9, s_bind, s_map, s_eqI, s_neI, s_eqS, s_neS, atI_0, atI_1, atI_2, atI_3, s_int1, s_int2, s_max, s_mod, s_ix1, s_ix2, s_len1, s_len2, s_list1, s_list2, s_list3, s_tup1, s_tup2, decide_true, decide_false, if_true, if_false, s_ge, s_lt, s_le, s_gt, s_truth, List.set_cons_zero, List.set_cons_succ, s_mul, Bool.or_true, s_add1, s_add3, s_add4, s_sub, s_fdiv, Bool.and_true, Bool.false_eq_true, List.replicate, Nat.reduceAdd, Nat.reduceSub, Int.reduceAdd, Int.reduceSub, Int.reduceMul, fnL, constF, newCell, R.bind_stuck, F_check_table, b_check_table, N_check_table, isTys, List.any_cons, List.any_nil, isTy, dNot, Bool.or_false, Bool.not_false, v_rais1, RS.seq_exc]
theorem check_non (S : Sto) : F_check_table [.non] S = .exc ⟨1, some (.int (-1))⟩ S := by
  simp only [evDef, startE, evSs, evEs, evO, evIf, evSrc, s_it1, s_it2, s_it3, e_lit, e_glob, e_var, e_pk, e_tup, e_lst, e_bin, e_star, e_neg, e_cmp, e_isN, e_chain, e_and, e_or, e_not, e_ite, e_idx, e_slice, e_fld, e_call, e_blt, e_isi, e_join, e_comp, e_dcomp, e_dic0, e_cidx, e_cell, e_cget, e_clen, e_ccat, v_asg, v_asgO, v_unp, v_par, v_setI, v_setK, v_aug, v_app, v_exp, v_ret, v_retO, v_retN, v_ite, v_for_, v_pass, v_never, v_frz, v_cset, immAt, pkAt, MP.setI, ownAt, lstOwn, dicOwn, MP.setO, List.map_cons, List.map_nil, List.length_cons, List.length_nil, List.cons_append, List.nil_append, List.getElem?_cons_zero, List.getElem?_cons_succ, R.of_some, R.of_none, R.bind_ok, RS.of_ok, RS.seq_nx, RS.seq_ret, nc0, nc1, nc2, nc3, nc4, nc5, nc6, nc7, nc8, nc9, s_bind, s_map, s_eqI, s_neI, s_eqS, s_neS, atI_0, atI_1, atI_2, atI_3, s_int1, s_int2, s_max, s_mod, s_ix1, s_ix2, s_len1, s_len2, s_list1, s_list2, s_list3, s_tup1, s_tup2, decide_true, decide_false, if_true, if_false, s_ge, s_lt, s_le, s_gt, s_truth, List.set_cons_zero, List.set_cons_succ, s_mul, Bool.or_true, s_add1, s_add3, s_add4, s_sub, s_fdiv, Bool.and_true, Bool.false_eq_true, List.replicate, Nat.reduceAdd, Nat.reduceSub, Int.reduceAdd, Int.reduceSub, Int.reduceMul, fnL, constF, newCell, R.bind_stuck, F_check_table, b_check_table, N_check_table, isTys, List.any_cons, List.any_nil, isTy, dNot, Bool.or_false, Bool.not_false, v_rais1, RS.seq_exc]
/-! ### all that asks -/
theorem fset_at {S T : Sto} {fs : List (Str × D)} {f : Str} {d : D} (h : (putG f d fs).length ≤ 100) : cFset (S ++ .ins 0 fs :: T) (.ref S.length) f d = some (S ++ .ins 0 (putG f d fs) :: T) := by
  simp [cFset, insAt, h]
theorem desk_bad {p t v : D} (S : Sto) (h : ∀ S, F_check_table [t] S = .exc ⟨1, some v⟩ S) : newCF F_Desk_init [p, t] S = .exc ⟨1, some v⟩ (S ++ [.ins 0 []]) := by
  have e : F_Desk_init [.ref S.length, p, t] (S ++ [.ins 0 []]) = .exc ⟨1, some v⟩ (S ++ [.ins 0 []]) := by
    simp only [evDef, startE, evSs, evEs, evO, evIf, evSrc, s_it1, s_it2, s_it3, e_lit, e_glob, e_var, e_pk, e_tup, e_lst, e_bin, e_star, e_neg, e_cmp, e_isN, e_chain, e_and, e_or, e_not, e_ite, e_idx, e_slice, e_fld, e_call, e_blt, e_isi, e_join, e_comp, e_dcomp, e_dic0, e_cidx, e_cell, e_cget, e_clen, e_ccat, v_asg, v_asgO, v_unp, v_par, v_setI, v_setK, v_aug, v_app, v_exp, v_ret, v_retO, v_retN, v_ite, v_for_, v_pass, v_never, v_frz, v_cset, immAt, pkAt, MP.setI, ownAt, lstOwn, dicOwn, MP.setO, List.map_cons, List.map_nil, List.length_cons, List.length_nil, List.cons_append, List.nil_append, List.getElem?_cons_zero, List.getElem?_cons_succ, R.of_some, R.of_none, R.bind_ok, RS.of_ok, RS.seq_nx, RS.seq_ret, nc0, nc1, nc2, nc3, nc4, nc5, nc6, nc7, nc8, nc9, s_bind, s_map, s_eqI, s_neI, s_eqS, s_neS, atI_0, atI_1, atI_2, atI_3, s_int1, s_int2, s_max, s_mod, s_ix1, s_ix2, s_len1, s_len2, s_list1, s_list2, s_list3, s_tup1, s_tup2, decide_true, decide_false, if_true, if_false, s_ge, s_lt, s_le, s_gt, s_truth, List.set_cons_zero, List.set_cons_succ, s_mul, Bool.or_true, s_add1, s_add3, s_add4, s_sub, s_fdiv, Bool.and_true, Bool.false_eq_true, List.replicate, Nat.reduceAdd, Nat.reduceSub, Int.reduceAdd, Int.reduceSub, Int.reduceMul, fnL, constF, newCell, R.bind_stuck, F_Desk_init, b_Desk_init, N_Desk_init, h, RS.of_exc, RS.seq_exc]
  unfold newCF
  rw [e]
theorem desk_ok {p : D} {xs : List D} (S : Sto) (h : ∀ S, F_check_table [.lst xs] S = .ok .non S) : ∃ T, newCF F_Desk_init [p, .lst xs] S = .ok (.ref S.length) (S ++ T) := by
  have mT : mkTup [p, .tup xs] = some (.tup [p, .tup xs]) := mkT_of (n := 2) rfl (by decide)
  have mL : mkLst [] = some (.lst []) := mkL_of (n := 0) rfl (by decide)
  have f1 : ∀ d, cFset (S ++ [.ins 0 []]) (.ref S.length) "now" d = some (S ++ [.ins 0 [("now", d)]]) := fun d => fset_at (T := []) (fs := []) (Nat.le_of_ble_eq_true (by kernel_rfl))
  have f2 : ∀ d r, cFset (S ++ [.ins 0 [("now", d)], .lst []]) (.ref S.length) "past" r = some (S ++ [.ins 0 [("now", d), ("past", r)], .lst []]) := fun d r => fset_at (T := [.lst []]) (fs := [("now", d)]) (Nat.le_of_ble_eq_true (by kernel_rfl))
  have f3 : ∀ d r q, cFset (S ++ [.ins 0 [("now", d), ("past", r)], .lst [], .lst []]) (.ref S.length) "future" q = some (S ++ [.ins 0 [("now", d), ("past", r), ("future", q)], .lst [], .lst []]) := fun d r q => fset_at (T := [.lst [], .lst []]) (fs := [("now", d), ("past", r)]) (Nat.le_of_ble_eq_true (by kernel_rfl))
  have f4 : ∀ d r q o, cFset (S ++ [.ins 0 [("now", d), ("past", r), ("future", q)], .lst [], .lst []]) (.ref S.length) "origin" o = some (S ++ [.ins 0 [("now", d), ("past", r), ("future", q), ("origin", o)], .lst [], .lst []]) := fun d r q o => fset_at (T := [.lst [], .lst []]) (fs := [("now", d), ("past", r), ("future", q)]) (Nat.le_of_ble_eq_true (by kernel_rfl))
  have f5 : ∀ d r q o i, cFset (S ++ [.ins 0 [("now", d), ("past", r), ("future", q), ("origin", o)], .lst [], .lst []]) (.ref S.length) "inner" i = some (S ++ [.ins 0 [("now", d), ("past", r), ("future", q), ("origin", o), ("inner", i)], .lst [], .lst []]) := fun d r q o i => fset_at (T := [.lst [], .lst []]) (fs := [("now", d), ("past", r), ("future", q), ("origin", o)]) (Nat.le_of_ble_eq_true (by kernel_rfl))
  obtain ⟨T, e⟩ : ∃ T, F_Desk_init [.ref S.length, p, .lst xs] (S ++ [.ins 0 []]) = .ok .non (S ++ T) := by
    refine ⟨[.ins 0 [("now", .tup [p, .tup xs]), ("past", .ref (S ++ [Cell.ins 0 [("now", .tup [p, .tup xs])]]).length), ("future", .ref (S ++ [Cell.ins 0 [("now", .tup [p, .tup xs]), ("past", .ref (S ++ [Cell.ins 0 [("now", .tup [p, .tup xs])]]).length)], Cell.lst []]).length), ("origin", .non), ("inner", .non)], .lst [], .lst []], ?_⟩
    simp only [evDef, startE, evSs, evEs, evO, evIf, evSrc, s_it1, s_it2, s_it3, e_lit, e_glob, e_var, e_pk, e_tup, e_lst, e_bin, e_star, e_neg, e_cmp, e_isN, e_chain, e_and, e_or, e_not, e_ite, e_idx, e_slice, e_fld, e_call, e_blt, e_isi, e_join, e_comp, e_dcomp, e_dic0, e_cidx, e_cell, e_cget, e_clen, e_ccat, v_asg, v_asgO, v_unp, v_par, v_setI, v_setK, v_aug, v_app, v_exp, v_ret, v_retO, v_retN, v_ite, v_for_, v_pass, v_never, v_frz, v_cset, immAt, pkAt, MP.setI, ownAt, lstOwn, dicOwn, MP.setO, List.map_cons, List.map_nil, List.length_cons, List.length_nil, List.cons_append, List.nil_append, List.getElem?_cons_zero, List.getElem?_cons_succ, R.of_some, R.of_none, R.bind_ok, RS.of_ok, RS.seq_nx, RS.seq_ret, nc0, nc1, nc2, nc3, nc4, nc5, nc6, nc7, nc8, nc9, s_bind, s_map, s_eqI, s_neI, s_eqS, s_neS, atI_0, atI_1, atI_2, atI_3, s_int1, s_int2, s_max, s_mod, s_ix1, s_ix2, s_len1, s_len2, s_list1, s_list2, s_list3, s_tup1, s_tup2, decide_true, decide_false, if_true, if_false, s_ge, s_lt, s_le, s_gt, s_truth, List.set_cons_zero, List.set_cons_succ, s_mul, Bool.or_true, s_add1, s_add3, s_add4, s_sub, s_fdiv, Bool.and_true, Bool.false_eq_true, List.replicate, Nat.reduceAdd, Nat.reduceSub, Int.reduceAdd, Int.reduceSub, Int.reduceMul, fnL, constF, newCell, R.bind_stuck, F_Desk_init, b_Desk_init, N_Desk_init, h, v_fset, mT, mL, List.append_assoc, f1, f2, f3, f4, f5]
  unfold newCF
  rw [e]
  exact ⟨T, rfl⟩
end PG

namespace PG
open PySem MP
theorem HSt.app {T S : Sto} (h : HSt T S) (T' : Sto) : HSt (T ++ T') (S ++ T') := by
  obtain ⟨ns, a, i, h1, h2, rfl⟩ := h
  exact ⟨ns, a, i, h1, h2, rfl⟩
def K7 (d : D) : Prop := d = .int 0 ∨ d = .int 1 ∨ d = .int 2 ∨ d = .int 3 ∨ d = .int 4 ∨ d = .int 5 ∨ d = .int 6
theorem ask_bad {k p t v : D} (S : Sto) (hk : K7 k) (h : ∀ S, F_check_table [t] S = .exc ⟨1, some v⟩ S) : ∃ T, F_law_ask [k, p, t] S = .exc ⟨1, some v⟩ (S ++ T) := by
  rcases hk with rfl | rfl | rfl | rfl | rfl | rfl | rfl
  · refine ⟨[], ?_⟩
    simp only [evDef, startE, evSs, evEs, evO, evIf, evSrc, s_it1, s_it2, s_it3, e_lit, e_glob, e_var, e_pk, e_tup, e_lst, e_bin, e_star, e_neg, e_cmp, e_isN, e_chain, e_and, e_or, e_not, e_ite, e_idx, e_slice, e_fld, e_call, e_blt, e_isi, e_join, e_comp, e_dcomp, e_dic0, e_cidx, e_cell, e_cget, e_clen, e_ccat, v_asg, v_asgO, v_unp, v_par, v_setI, v_setK, v_aug, v_app, v_exp, v_ret, v_retO, v_retN, v_ite, v_for_, v_pass, v_never, v_frz, v_cset, immAt, pkAt, MP.setI, ownAt, lstOwn, dicOwn, MP.setO, List.map_cons, List.map_nil, List.length_cons, List.length_nil, List.cons_append, List.nil_append, List.getElem?_cons_zero, List.getElem?_cons_succ, R.of_some, R.of_none, R.bind_ok, RS.of_ok, RS.seq_nx, RS.seq_ret, nc0, nc1, nc2, nc3, nc4, nc5, nc6, nc7, nc8, nc9, s_bind, s_map, s_eqI, s_neI, s_eqS, s_neS, atI_0, atI_1, atI_2, atI_3, s_int1, s_int2, s_max, s_mod, s_ix1, s_ix2, s_len1, s_len2, s_list1, s_list2, s_list3, s_tup1, s_tup2, decide_true, decide_false, if_true, if_false, s_ge, s_lt, s_le, s_gt, s_truth, List.set_cons_zero, List.set_cons_succ, s_mul, Bool.or_true, s_add1, s_add3, s_add4, s_sub, s_fdiv, Bool.and_true, Bool.false_eq_true, List.replicate, Nat.reduceAdd, Nat.reduceSub, Int.reduceAdd, Int.reduceSub, Int.reduceMul, fnL, constF, newCell, R.bind_stuck, F_law_ask, b_law_ask, N_law_ask, h, RS.of_exc, RS.seq_exc, Int.reduceEq, List.append_nil]
  · refine ⟨[], ?_⟩
    have e : F_done [p, t] S = .exc ⟨1, some v⟩ S := by simp only [evDef, startE, evSs, evEs, evO, evIf, evSrc, s_it1, s_it2, s_it3, e_lit, e_glob, e_var, e_pk, e_tup, e_lst, e_bin, e_star, e_neg, e_cmp, e_isN, e_chain, e_and, e_or, e_not, e_ite, e_idx, e_slice, e_fld, e_call, e_blt, e_isi, e_join, e_comp, e_dcomp, e_dic0, e_cidx, e_cell, e_cget, e_clen, e_ccat, v_asg, v_asgO, v_unp, v_par, v_setI, v_setK, v_aug, v_app, v_exp, v_ret, v_retO, v_retN, v_ite, v_for_, v_pass, v_never, v_frz, v_cset, immAt, pkAt, MP.setI, ownAt, lstOwn, dicOwn, MP.setO, List.map_cons, List.map_nil, List.length_cons, List.length_nil, List.cons_append, List.nil_append, List.getElem?_cons_zero, List.getElem?_cons_succ, R.of_some, R.of_none, R.bind_ok, RS.of_ok, RS.seq_nx, RS.seq_ret, nc0, nc1, nc2, nc3, nc4, nc5, nc6, nc7, nc8, nc9, s_bind, s_map, s_eqI, s_neI, s_eqS, s_neS, atI_0, atI_1, atI_2, atI_3, s_int1, s_int2, s_max, s_mod, s_ix1, s_ix2, s_len1, s_len2, s_list1, s_list2, s_list3, s_tup1, s_tup2, decide_true, decide_false, if_true, if_false, s_ge, s_lt, s_le, s_gt, s_truth, List.set_cons_zero, List.set_cons_succ, s_mul, Bool.or_true, s_add1, s_add3, s_add4, s_sub, s_fdiv, Bool.and_true, Bool.false_eq_true, List.replicate, Nat.reduceAdd, Nat.reduceSub, Int.reduceAdd, Int.reduceSub, Int.reduceMul, fnL, constF, newCell, R.bind_stuck, F_done, b_done, N_done, h, RS.of_exc, RS.seq_exc]
    simp only [evDef, startE, evSs, evEs, evO, evIf, evSrc, s_it1, s_it2, s_it3, e_lit, e_glob, e_var, e_pk, e_tup, e_lst, e_bin, e_star, e_neg, e_cmp, e_isN, e_chain, e_and, e_or, e_not, e_ite, e_idx, e_slice, e_fld, e_call, e_blt, e_isi, e_join, e_comp, e_dcomp, e_dic0, e_cidx, e_cell, e_cget, e_clen, e_ccat, v_asg, v_asgO, v_unp, v_par, v_setI, v_setK, v_aug, v_app, v_exp, v_ret, v_retO, v_retN, v_ite, v_for_, v_pass, v_never, v_frz, v_cset, immAt, pkAt, MP.setI, ownAt, lstOwn, dicOwn, MP.setO, List.map_cons, List.map_nil, List.length_cons, List.length_nil, List.cons_append, List.nil_append, List.getElem?_cons_zero, List.getElem?_cons_succ, R.of_some, R.of_none, R.bind_ok, RS.of_ok, RS.seq_nx, RS.seq_ret, nc0, nc1, nc2, nc3, nc4, nc5, nc6, nc7, nc8, nc9, s_bind, s_map, s_eqI, s_neI, s_eqS, s_neS, atI_0, atI_1, atI_2, atI_3, s_int1, s_int2, s_max, s_mod, s_ix1, s_ix2, s_len1, s_len2, s_list1, s_list2, s_list3, s_tup1, s_tup2, decide_true, decide_false, if_true, if_false, s_ge, s_lt, s_le, s_gt, s_truth, List.set_cons_zero, List.set_cons_succ, s_mul, Bool.or_true, s_add1, s_add3, s_add4, s_sub, s_fdiv, Bool.and_true, Bool.false_eq_true, List.replicate, Nat.reduceAdd, Nat.reduceSub, Int.reduceAdd, Int.reduceSub, Int.reduceMul, fnL, constF, newCell, R.bind_stuck, F_law_ask, b_law_ask, N_law_ask, e, RS.of_exc, RS.seq_exc, Int.reduceEq, List.append_nil]
  · refine ⟨[], ?_⟩
    have e : F_done_by [p, t, .int 99] S = .exc ⟨1, some v⟩ S := by simp only [evDef, startE, evSs, evEs, evO, evIf, evSrc, s_it1, s_it2, s_it3, e_lit, e_glob, e_var, e_pk, e_tup, e_lst, e_bin, e_star, e_neg, e_cmp, e_isN, e_chain, e_and, e_or, e_not, e_ite, e_idx, e_slice, e_fld, e_call, e_blt, e_isi, e_join, e_comp, e_dcomp, e_dic0, e_cidx, e_cell, e_cget, e_clen, e_ccat, v_asg, v_asgO, v_unp, v_par, v_setI, v_setK, v_aug, v_app, v_exp, v_ret, v_retO, v_retN, v_ite, v_for_, v_pass, v_never, v_frz, v_cset, immAt, pkAt, MP.setI, ownAt, lstOwn, dicOwn, MP.setO, List.map_cons, List.map_nil, List.length_cons, List.length_nil, List.cons_append, List.nil_append, List.getElem?_cons_zero, List.getElem?_cons_succ, R.of_some, R.of_none, R.bind_ok, RS.of_ok, RS.seq_nx, RS.seq_ret, nc0, nc1, nc2, nc3, nc4, nc5, nc6, nc7, nc8, nc9, s_bind, s_map, s_eqI, s_neI, s_eqS, s_neS, atI_0, atI_1, atI_2, atI_3, s_int1, s_int2, s_max, s_mod, s_ix1, s_ix2, s_len1, s_len2, s_list1, s_list2, s_list3, s_tup1, s_tup2, decide_true, decide_false, if_true, if_false, s_ge, s_lt, s_le, s_gt, s_truth, List.set_cons_zero, List.set_cons_succ, s_mul, Bool.or_true, s_add1, s_add3, s_add4, s_sub, s_fdiv, Bool.and_true, Bool.false_eq_true, List.replicate, Nat.reduceAdd, Nat.reduceSub, Int.reduceAdd, Int.reduceSub, Int.reduceMul, fnL, constF, newCell, R.bind_stuck, F_done_by, b_done_by, N_done_by, h, RS.of_exc, RS.seq_exc]
    simp only [evDef, startE, evSs, evEs, evO, evIf, evSrc, s_it1, s_it2, s_it3, e_lit, e_glob, e_var, e_pk, e_tup, e_lst, e_bin, e_star, e_neg, e_cmp, e_isN, e_chain, e_and, e_or, e_not, e_ite, e_idx, e_slice, e_fld, e_call, e_blt, e_isi, e_join, e_comp, e_dcomp, e_dic0, e_cidx, e_cell, e_cget, e_clen, e_ccat, v_asg, v_asgO, v_unp, v_par, v_setI, v_setK, v_aug, v_app, v_exp, v_ret, v_retO, v_retN, v_ite, v_for_, v_pass, v_never, v_frz, v_cset, immAt, pkAt, MP.setI, ownAt, lstOwn, dicOwn, MP.setO, List.map_cons, List.map_nil, List.length_cons, List.length_nil, List.cons_append, List.nil_append, List.getElem?_cons_zero, List.getElem?_cons_succ, R.of_some, R.of_none, R.bind_ok, RS.of_ok, RS.seq_nx, RS.seq_ret, nc0, nc1, nc2, nc3, nc4, nc5, nc6, nc7, nc8, nc9, s_bind, s_map, s_eqI, s_neI, s_eqS, s_neS, atI_0, atI_1, atI_2, atI_3, s_int1, s_int2, s_max, s_mod, s_ix1, s_ix2, s_len1, s_len2, s_list1, s_list2, s_list3, s_tup1, s_tup2, decide_true, decide_false, if_true, if_false, s_ge, s_lt, s_le, s_gt, s_truth, List.set_cons_zero, List.set_cons_succ, s_mul, Bool.or_true, s_add1, s_add3, s_add4, s_sub, s_fdiv, Bool.and_true, Bool.false_eq_true, List.replicate, Nat.reduceAdd, Nat.reduceSub, Int.reduceAdd, Int.reduceSub, Int.reduceMul, fnL, constF, newCell, R.bind_stuck, F_law_ask, b_law_ask, N_law_ask, e, RS.of_exc, RS.seq_exc, Int.reduceEq, List.append_nil]
  · refine ⟨[], ?_⟩
    have e : F_told [p, t] S = .exc ⟨1, some v⟩ S := by simp only [evDef, startE, evSs, evEs, evO, evIf, evSrc, s_it1, s_it2, s_it3, e_lit, e_glob, e_var, e_pk, e_tup, e_lst, e_bin, e_star, e_neg, e_cmp, e_isN, e_chain, e_and, e_or, e_not, e_ite, e_idx, e_slice, e_fld, e_call, e_blt, e_isi, e_join, e_comp, e_dcomp, e_dic0, e_cidx, e_cell, e_cget, e_clen, e_ccat, v_asg, v_asgO, v_unp, v_par, v_setI, v_setK, v_aug, v_app, v_exp, v_ret, v_retO, v_retN, v_ite, v_for_, v_pass, v_never, v_frz, v_cset, immAt, pkAt, MP.setI, ownAt, lstOwn, dicOwn, MP.setO, List.map_cons, List.map_nil, List.length_cons, List.length_nil, List.cons_append, List.nil_append, List.getElem?_cons_zero, List.getElem?_cons_succ, R.of_some, R.of_none, R.bind_ok, RS.of_ok, RS.seq_nx, RS.seq_ret, nc0, nc1, nc2, nc3, nc4, nc5, nc6, nc7, nc8, nc9, s_bind, s_map, s_eqI, s_neI, s_eqS, s_neS, atI_0, atI_1, atI_2, atI_3, s_int1, s_int2, s_max, s_mod, s_ix1, s_ix2, s_len1, s_len2, s_list1, s_list2, s_list3, s_tup1, s_tup2, decide_true, decide_false, if_true, if_false, s_ge, s_lt, s_le, s_gt, s_truth, List.set_cons_zero, List.set_cons_succ, s_mul, Bool.or_true, s_add1, s_add3, s_add4, s_sub, s_fdiv, Bool.and_true, Bool.false_eq_true, List.replicate, Nat.reduceAdd, Nat.reduceSub, Int.reduceAdd, Int.reduceSub, Int.reduceMul, fnL, constF, newCell, R.bind_stuck, F_told, b_told, N_told, h, RS.of_exc, RS.seq_exc]
    simp only [evDef, startE, evSs, evEs, evO, evIf, evSrc, s_it1, s_it2, s_it3, e_lit, e_glob, e_var, e_pk, e_tup, e_lst, e_bin, e_star, e_neg, e_cmp, e_isN, e_chain, e_and, e_or, e_not, e_ite, e_idx, e_slice, e_fld, e_call, e_blt, e_isi, e_join, e_comp, e_dcomp, e_dic0, e_cidx, e_cell, e_cget, e_clen, e_ccat, v_asg, v_asgO, v_unp, v_par, v_setI, v_setK, v_aug, v_app, v_exp, v_ret, v_retO, v_retN, v_ite, v_for_, v_pass, v_never, v_frz, v_cset, immAt, pkAt, MP.setI, ownAt, lstOwn, dicOwn, MP.setO, List.map_cons, List.map_nil, List.length_cons, List.length_nil, List.cons_append, List.nil_append, List.getElem?_cons_zero, List.getElem?_cons_succ, R.of_some, R.of_none, R.bind_ok, RS.of_ok, RS.seq_nx, RS.seq_ret, nc0, nc1, nc2, nc3, nc4, nc5, nc6, nc7, nc8, nc9, s_bind, s_map, s_eqI, s_neI, s_eqS, s_neS, atI_0, atI_1, atI_2, atI_3, s_int1, s_int2, s_max, s_mod, s_ix1, s_ix2, s_len1, s_len2, s_list1, s_list2, s_list3, s_tup1, s_tup2, decide_true, decide_false, if_true, if_false, s_ge, s_lt, s_le, s_gt, s_truth, List.set_cons_zero, List.set_cons_succ, s_mul, Bool.or_true, s_add1, s_add3, s_add4, s_sub, s_fdiv, Bool.and_true, Bool.false_eq_true, List.replicate, Nat.reduceAdd, Nat.reduceSub, Int.reduceAdd, Int.reduceSub, Int.reduceMul, fnL, constF, newCell, R.bind_stuck, F_law_ask, b_law_ask, N_law_ask, e, RS.of_exc, RS.seq_exc, Int.reduceEq, List.append_nil]
  · refine ⟨[], ?_⟩
    have e : F_worth_of [.dic [], t, .int (-1)] S = .exc ⟨1, some v⟩ S := by simp only [evDef, startE, evSs, evEs, evO, evIf, evSrc, s_it1, s_it2, s_it3, e_lit, e_glob, e_var, e_pk, e_tup, e_lst, e_bin, e_star, e_neg, e_cmp, e_isN, e_chain, e_and, e_or, e_not, e_ite, e_idx, e_slice, e_fld, e_call, e_blt, e_isi, e_join, e_comp, e_dcomp, e_dic0, e_cidx, e_cell, e_cget, e_clen, e_ccat, v_asg, v_asgO, v_unp, v_par, v_setI, v_setK, v_aug, v_app, v_exp, v_ret, v_retO, v_retN, v_ite, v_for_, v_pass, v_never, v_frz, v_cset, immAt, pkAt, MP.setI, ownAt, lstOwn, dicOwn, MP.setO, List.map_cons, List.map_nil, List.length_cons, List.length_nil, List.cons_append, List.nil_append, List.getElem?_cons_zero, List.getElem?_cons_succ, R.of_some, R.of_none, R.bind_ok, RS.of_ok, RS.seq_nx, RS.seq_ret, nc0, nc1, nc2, nc3, nc4, nc5, nc6, nc7, nc8, nc9, s_bind, s_map, s_eqI, s_neI, s_eqS, s_neS, atI_0, atI_1, atI_2, atI_3, s_int1, s_int2, s_max, s_mod, s_ix1, s_ix2, s_len1, s_len2, s_list1, s_list2, s_list3, s_tup1, s_tup2, decide_true, decide_false, if_true, if_false, s_ge, s_lt, s_le, s_gt, s_truth, List.set_cons_zero, List.set_cons_succ, s_mul, Bool.or_true, s_add1, s_add3, s_add4, s_sub, s_fdiv, Bool.and_true, Bool.false_eq_true, List.replicate, Nat.reduceAdd, Nat.reduceSub, Int.reduceAdd, Int.reduceSub, Int.reduceMul, fnL, constF, newCell, R.bind_stuck, F_worth_of, b_worth_of, N_worth_of, h, RS.of_exc, RS.seq_exc]
    simp only [evDef, startE, evSs, evEs, evO, evIf, evSrc, s_it1, s_it2, s_it3, e_lit, e_glob, e_var, e_pk, e_tup, e_lst, e_bin, e_star, e_neg, e_cmp, e_isN, e_chain, e_and, e_or, e_not, e_ite, e_idx, e_slice, e_fld, e_call, e_blt, e_isi, e_join, e_comp, e_dcomp, e_dic0, e_cidx, e_cell, e_cget, e_clen, e_ccat, v_asg, v_asgO, v_unp, v_par, v_setI, v_setK, v_aug, v_app, v_exp, v_ret, v_retO, v_retN, v_ite, v_for_, v_pass, v_never, v_frz, v_cset, immAt, pkAt, MP.setI, ownAt, lstOwn, dicOwn, MP.setO, List.map_cons, List.map_nil, List.length_cons, List.length_nil, List.cons_append, List.nil_append, List.getElem?_cons_zero, List.getElem?_cons_succ, R.of_some, R.of_none, R.bind_ok, RS.of_ok, RS.seq_nx, RS.seq_ret, nc0, nc1, nc2, nc3, nc4, nc5, nc6, nc7, nc8, nc9, s_bind, s_map, s_eqI, s_neI, s_eqS, s_neS, atI_0, atI_1, atI_2, atI_3, s_int1, s_int2, s_max, s_mod, s_ix1, s_ix2, s_len1, s_len2, s_list1, s_list2, s_list3, s_tup1, s_tup2, decide_true, decide_false, if_true, if_false, s_ge, s_lt, s_le, s_gt, s_truth, List.set_cons_zero, List.set_cons_succ, s_mul, Bool.or_true, s_add1, s_add3, s_add4, s_sub, s_fdiv, Bool.and_true, Bool.false_eq_true, List.replicate, Nat.reduceAdd, Nat.reduceSub, Int.reduceAdd, Int.reduceSub, Int.reduceMul, fnL, constF, newCell, R.bind_stuck, F_law_ask, b_law_ask, N_law_ask, e, RS.of_exc, RS.seq_exc, Int.reduceEq, List.append_nil]
  · refine ⟨[], ?_⟩
    have e : F_is_leak [p, t, .non] S = .exc ⟨1, some v⟩ S := by simp only [evDef, startE, evSs, evEs, evO, evIf, evSrc, s_it1, s_it2, s_it3, e_lit, e_glob, e_var, e_pk, e_tup, e_lst, e_bin, e_star, e_neg, e_cmp, e_isN, e_chain, e_and, e_or, e_not, e_ite, e_idx, e_slice, e_fld, e_call, e_blt, e_isi, e_join, e_comp, e_dcomp, e_dic0, e_cidx, e_cell, e_cget, e_clen, e_ccat, v_asg, v_asgO, v_unp, v_par, v_setI, v_setK, v_aug, v_app, v_exp, v_ret, v_retO, v_retN, v_ite, v_for_, v_pass, v_never, v_frz, v_cset, immAt, pkAt, MP.setI, ownAt, lstOwn, dicOwn, MP.setO, List.map_cons, List.map_nil, List.length_cons, List.length_nil, List.cons_append, List.nil_append, List.getElem?_cons_zero, List.getElem?_cons_succ, R.of_some, R.of_none, R.bind_ok, RS.of_ok, RS.seq_nx, RS.seq_ret, nc0, nc1, nc2, nc3, nc4, nc5, nc6, nc7, nc8, nc9, s_bind, s_map, s_eqI, s_neI, s_eqS, s_neS, atI_0, atI_1, atI_2, atI_3, s_int1, s_int2, s_max, s_mod, s_ix1, s_ix2, s_len1, s_len2, s_list1, s_list2, s_list3, s_tup1, s_tup2, decide_true, decide_false, if_true, if_false, s_ge, s_lt, s_le, s_gt, s_truth, List.set_cons_zero, List.set_cons_succ, s_mul, Bool.or_true, s_add1, s_add3, s_add4, s_sub, s_fdiv, Bool.and_true, Bool.false_eq_true, List.replicate, Nat.reduceAdd, Nat.reduceSub, Int.reduceAdd, Int.reduceSub, Int.reduceMul, fnL, constF, newCell, R.bind_stuck, F_is_leak, b_is_leak, N_is_leak, h, RS.of_exc, RS.seq_exc]
    simp only [evDef, startE, evSs, evEs, evO, evIf, evSrc, s_it1, s_it2, s_it3, e_lit, e_glob, e_var, e_pk, e_tup, e_lst, e_bin, e_star, e_neg, e_cmp, e_isN, e_chain, e_and, e_or, e_not, e_ite, e_idx, e_slice, e_fld, e_call, e_blt, e_isi, e_join, e_comp, e_dcomp, e_dic0, e_cidx, e_cell, e_cget, e_clen, e_ccat, v_asg, v_asgO, v_unp, v_par, v_setI, v_setK, v_aug, v_app, v_exp, v_ret, v_retO, v_retN, v_ite, v_for_, v_pass, v_never, v_frz, v_cset, immAt, pkAt, MP.setI, ownAt, lstOwn, dicOwn, MP.setO, List.map_cons, List.map_nil, List.length_cons, List.length_nil, List.cons_append, List.nil_append, List.getElem?_cons_zero, List.getElem?_cons_succ, R.of_some, R.of_none, R.bind_ok, RS.of_ok, RS.seq_nx, RS.seq_ret, nc0, nc1, nc2, nc3, nc4, nc5, nc6, nc7, nc8, nc9, s_bind, s_map, s_eqI, s_neI, s_eqS, s_neS, atI_0, atI_1, atI_2, atI_3, s_int1, s_int2, s_max, s_mod, s_ix1, s_ix2, s_len1, s_len2, s_list1, s_list2, s_list3, s_tup1, s_tup2, decide_true, decide_false, if_true, if_false, s_ge, s_lt, s_le, s_gt, s_truth, List.set_cons_zero, List.set_cons_succ, s_mul, Bool.or_true, s_add1, s_add3, s_add4, s_sub, s_fdiv, Bool.and_true, Bool.false_eq_true, List.replicate, Nat.reduceAdd, Nat.reduceSub, Int.reduceAdd, Int.reduceSub, Int.reduceMul, fnL, constF, newCell, R.bind_stuck, F_law_ask, b_law_ask, N_law_ask, e, RS.of_exc, RS.seq_exc, Int.reduceEq, List.append_nil]
  · refine ⟨[.ins 0 []], ?_⟩
    have e := desk_bad (p := p) S h
    simp only [evDef, startE, evSs, evEs, evO, evIf, evSrc, s_it1, s_it2, s_it3, e_lit, e_glob, e_var, e_pk, e_tup, e_lst, e_bin, e_star, e_neg, e_cmp, e_isN, e_chain, e_and, e_or, e_not, e_ite, e_idx, e_slice, e_fld, e_call, e_blt, e_isi, e_join, e_comp, e_dcomp, e_dic0, e_cidx, e_cell, e_cget, e_clen, e_ccat, v_asg, v_asgO, v_unp, v_par, v_setI, v_setK, v_aug, v_app, v_exp, v_ret, v_retO, v_retN, v_ite, v_for_, v_pass, v_never, v_frz, v_cset, immAt, pkAt, MP.setI, ownAt, lstOwn, dicOwn, MP.setO, List.map_cons, List.map_nil, List.length_cons, List.length_nil, List.cons_append, List.nil_append, List.getElem?_cons_zero, List.getElem?_cons_succ, R.of_some, R.of_none, R.bind_ok, RS.of_ok, RS.seq_nx, RS.seq_ret, nc0, nc1, nc2, nc3, nc4, nc5, nc6, nc7, nc8, nc9, s_bind, s_map, s_eqI, s_neI, s_eqS, s_neS, atI_0, atI_1, atI_2, atI_3, s_int1, s_int2, s_max, s_mod, s_ix1, s_ix2, s_len1, s_len2, s_list1, s_list2, s_list3, s_tup1, s_tup2, decide_true, decide_false, if_true, if_false, s_ge, s_lt, s_le, s_gt, s_truth, List.set_cons_zero, List.set_cons_succ, s_mul, Bool.or_true, s_add1, s_add3, s_add4, s_sub, s_fdiv, Bool.and_true, Bool.false_eq_true, List.replicate, Nat.reduceAdd, Nat.reduceSub, Int.reduceAdd, Int.reduceSub, Int.reduceMul, fnL, constF, newCell, R.bind_stuck, F_law_ask, b_law_ask, N_law_ask, e, RS.of_exc, RS.seq_exc, Int.reduceEq]
theorem ref_exc1 {k p t v : D} {S S' : Sto} (h : F_law_ask [k, p, t] S = .exc ⟨1, some v⟩ S') : F_law_refused_3 [k, p, t] S = .ok v S' := by
  have c1 : ([1, 2, 3, 4, 5] : List Nat).contains 1 = true := rfl
  have sx : subX 1 1 = true := rfl
  simp only [evDef, startE, evSs, evEs, evO, evIf, evSrc, s_it1, s_it2, s_it3, e_lit, e_glob, e_var, e_pk, e_tup, e_lst, e_bin, e_star, e_neg, e_cmp, e_isN, e_chain, e_and, e_or, e_not, e_ite, e_idx, e_slice, e_fld, e_call, e_blt, e_isi, e_join, e_comp, e_dcomp, e_dic0, e_cidx, e_cell, e_cget, e_clen, e_ccat, v_asg, v_asgO, v_unp, v_par, v_setI, v_setK, v_aug, v_app, v_exp, v_ret, v_retO, v_retN, v_ite, v_for_, v_pass, v_never, v_frz, v_cset, immAt, pkAt, MP.setI, ownAt, lstOwn, dicOwn, MP.setO, List.map_cons, List.map_nil, List.length_cons, List.length_nil, List.cons_append, List.nil_append, List.getElem?_cons_zero, List.getElem?_cons_succ, R.of_some, R.of_none, R.bind_ok, RS.of_ok, RS.seq_nx, RS.seq_ret, nc0, nc1, nc2, nc3, nc4, nc5, nc6, nc7, nc8, nc9, s_bind, s_map, s_eqI, s_neI, s_eqS, s_neS, atI_0, atI_1, atI_2, atI_3, s_int1, s_int2, s_max, s_mod, s_ix1, s_ix2, s_len1, s_len2, s_list1, s_list2, s_list3, s_tup1, s_tup2, decide_true, decide_false, if_true, if_false, s_ge, s_lt, s_le, s_gt, s_truth, List.set_cons_zero, List.set_cons_succ, s_mul, Bool.or_true, s_add1, s_add3, s_add4, s_sub, s_fdiv, Bool.and_true, Bool.false_eq_true, List.replicate, Nat.reduceAdd, Nat.reduceSub, Int.reduceAdd, Int.reduceSub, Int.reduceMul, fnL, constF, newCell, R.bind_stuck, F_law_refused_3, b_law_refused_3, N_law_refused_3, v_try, h, RS.of_exc, RS.seq_exc, evHs, evHd, evHSt, c1, sx, evEH, evEAs, evEA, Option.bind_some, Option.map_some]
theorem ref_exc5 {k p t v : D} {S S' : Sto} (h : F_law_ask [k, p, t] S = .exc ⟨5, some v⟩ S') : F_law_refused_3 [k, p, t] S = .ok (.str "other") S' := by
  have c1 : ([1, 2, 3, 4, 5] : List Nat).contains 5 = true := rfl
  have sx : subX 1 5 = false := rfl
  have sy : subX 0 5 = true := rfl
  simp only [evDef, startE, evSs, evEs, evO, evIf, evSrc, s_it1, s_it2, s_it3, e_lit, e_glob, e_var, e_pk, e_tup, e_lst, e_bin, e_star, e_neg, e_cmp, e_isN, e_chain, e_and, e_or, e_not, e_ite, e_idx, e_slice, e_fld, e_call, e_blt, e_isi, e_join, e_comp, e_dcomp, e_dic0, e_cidx, e_cell, e_cget, e_clen, e_ccat, v_asg, v_asgO, v_unp, v_par, v_setI, v_setK, v_aug, v_app, v_exp, v_ret, v_retO, v_retN, v_ite, v_for_, v_pass, v_never, v_frz, v_cset, immAt, pkAt, MP.setI, ownAt, lstOwn, dicOwn, MP.setO, List.map_cons, List.map_nil, List.length_cons, List.length_nil, List.cons_append, List.nil_append, List.getElem?_cons_zero, List.getElem?_cons_succ, R.of_some, R.of_none, R.bind_ok, RS.of_ok, RS.seq_nx, RS.seq_ret, nc0, nc1, nc2, nc3, nc4, nc5, nc6, nc7, nc8, nc9, s_bind, s_map, s_eqI, s_neI, s_eqS, s_neS, atI_0, atI_1, atI_2, atI_3, s_int1, s_int2, s_max, s_mod, s_ix1, s_ix2, s_len1, s_len2, s_list1, s_list2, s_list3, s_tup1, s_tup2, decide_true, decide_false, if_true, if_false, s_ge, s_lt, s_le, s_gt, s_truth, List.set_cons_zero, List.set_cons_succ, s_mul, Bool.or_true, s_add1, s_add3, s_add4, s_sub, s_fdiv, Bool.and_true, Bool.false_eq_true, List.replicate, Nat.reduceAdd, Nat.reduceSub, Int.reduceAdd, Int.reduceSub, Int.reduceMul, fnL, constF, newCell, R.bind_stuck, F_law_refused_3, b_law_refused_3, N_law_refused_3, v_try, h, RS.of_exc, RS.seq_exc, evHs, evHd, evHSt, c1, sx, sy, evEH, evEAs, evEA, Option.bind_some, Option.map_some]
theorem ref_ok {k p t v : D} {S S' : Sto} (h : F_law_ask [k, p, t] S = .ok v S') : F_law_refused_3 [k, p, t] S = .ok .non S' := by
  simp only [evDef, startE, evSs, evEs, evO, evIf, evSrc, s_it1, s_it2, s_it3, e_lit, e_glob, e_var, e_pk, e_tup, e_lst, e_bin, e_star, e_neg, e_cmp, e_isN, e_chain, e_and, e_or, e_not, e_ite, e_idx, e_slice, e_fld, e_call, e_blt, e_isi, e_join, e_comp, e_dcomp, e_dic0, e_cidx, e_cell, e_cget, e_clen, e_ccat, v_asg, v_asgO, v_unp, v_par, v_setI, v_setK, v_aug, v_app, v_exp, v_ret, v_retO, v_retN, v_ite, v_for_, v_pass, v_never, v_frz, v_cset, immAt, pkAt, MP.setI, ownAt, lstOwn, dicOwn, MP.setO, List.map_cons, List.map_nil, List.length_cons, List.length_nil, List.cons_append, List.nil_append, List.getElem?_cons_zero, List.getElem?_cons_succ, R.of_some, R.of_none, R.bind_ok, RS.of_ok, RS.seq_nx, RS.seq_ret, nc0, nc1, nc2, nc3, nc4, nc5, nc6, nc7, nc8, nc9, s_bind, s_map, s_eqI, s_neI, s_eqS, s_neS, atI_0, atI_1, atI_2, atI_3, s_int1, s_int2, s_max, s_mod, s_ix1, s_ix2, s_len1, s_len2, s_list1, s_list2, s_list3, s_tup1, s_tup2, decide_true, decide_false, if_true, if_false, s_ge, s_lt, s_le, s_gt, s_truth, List.set_cons_zero, List.set_cons_succ, s_mul, Bool.or_true, s_add1, s_add3, s_add4, s_sub, s_fdiv, Bool.and_true, Bool.false_eq_true, List.replicate, Nat.reduceAdd, Nat.reduceSub, Int.reduceAdd, Int.reduceSub, Int.reduceMul, fnL, constF, newCell, R.bind_stuck, F_law_refused_3, b_law_refused_3, N_law_refused_3, v_try, h]
/-! ### good tables -/
theorem not_int {i m : Int} (h : ¬ (0 ≤ i ∧ i ≤ m)) (S : Sto) : F_is_integer [.int i, .int 0, .int m] S = .ok (.bl false) S := by
  by_cases h1 : 0 ≤ i
  · have h2 : ¬ i ≤ m := fun h2 => h ⟨h1, h2⟩
    simp only [evDef, startE, evSs, evEs, evO, evIf, evSrc, s_it1, s_it2, s_it3, e_lit, e_glob, e_var, e_pk, e_tup, e_lst, e_bin, e_star, e_neg, e_cmp, e_isN, e_chain, e_and, e_or, e_not, e_ite, e_idx, e_slice, e_fld, e_call, e_blt, e_isi, e_join, e_comp, e_dcomp, e_dic0, e_cidx, e_cell, e_cget, e_clen, e_ccat, v_asg, v_asgO, v_unp, v_par, v_setI, v_setK, v_aug, v_app, v_exp, v_ret, v_retO, v_retN, v_ite, v_for_, v_pass, v_never, v_frz, v_cset, immAt, pkAt, MP.setI, ownAt, lstOwn, dicOwn, MP.setO, List.map_cons, List.map_nil, List.length_cons, List.length_nil, List.cons_append, List.nil_append, List.getElem?_cons_zero, List.getElem?_cons_succ, R.of_some, R.of_none, R.bind_ok, RS.of_ok, RS.seq_nx, RS.seq_ret, nc0, nc1, nc2, nc3, nc4, nc5, nc6, nc7, nc8, nc9, s_bind, s_map, s_eqI, s_neI, s_eqS, s_neS, atI_0, atI_1, atI_2, atI_3, s_int1, s_int2, s_max, s_mod, s_ix1, s_ix2, s_len1, s_len2, s_list1, s_list2, s_list3, s_tup1, s_tup2, decide_true, decide_false, if_true, if_false, s_ge, s_lt, s_le, s_gt, s_truth, List.set_cons_zero, List.set_cons_succ, s_mul, Bool.or_true, s_add1, s_add3, s_add4, s_sub, s_fdiv, Bool.and_true, Bool.false_eq_true, List.replicate, Nat.reduceAdd, Nat.reduceSub, Int.reduceAdd, Int.reduceSub, Int.reduceMul, fnL, constF, newCell, R.bind_stuck, F_is_integer, b_is_integer, N_is_integer, isTys, List.any_cons, List.any_nil, isTy, dNot, Bool.or_false, Bool.not_true, isNb, Bool.not_false, h1, h2]
  · simp only [evDef, startE, evSs, evEs, evO, evIf, evSrc, s_it1, s_it2, s_it3, e_lit, e_glob, e_var, e_pk, e_tup, e_lst, e_bin, e_star, e_neg, e_cmp, e_isN, e_chain, e_and, e_or, e_not, e_ite, e_idx, e_slice, e_fld, e_call, e_blt, e_isi, e_join, e_comp, e_dcomp, e_dic0, e_cidx, e_cell, e_cget, e_clen, e_ccat, v_asg, v_asgO, v_unp, v_par, v_setI, v_setK, v_aug, v_app, v_exp, v_ret, v_retO, v_retN, v_ite, v_for_, v_pass, v_never, v_frz, v_cset, immAt, pkAt, MP.setI, ownAt, lstOwn, dicOwn, MP.setO, List.map_cons, List.map_nil, List.length_cons, List.length_nil, List.cons_append, List.nil_append, List.getElem?_cons_zero, List.getElem?_cons_succ, R.of_some, R.of_none, R.bind_ok, RS.of_ok, RS.seq_nx, RS.seq_ret, nc0, nc1, nc2, nc3, nc4, nc5, nc6, nc7, nc8, nc9, s_bind, s_map, s_eqI, s_neI, s_eqS, s_neS, atI_0, atI_1, atI_2, atI_3, s_int1, s_int2, s_max, s_mod, s_ix1, s_ix2, s_len1, s_len2, s_list1, s_list2, s_list3, s_tup1, s_tup2, decide_true, decide_false, if_true, if_false, s_ge, s_lt, s_le, s_gt, s_truth, List.set_cons_zero, List.set_cons_succ, s_mul, Bool.or_true, s_add1, s_add3, s_add4, s_sub, s_fdiv, Bool.and_true, Bool.false_eq_true, List.replicate, Nat.reduceAdd, Nat.reduceSub, Int.reduceAdd, Int.reduceSub, Int.reduceMul, fnL, constF, newCell, R.bind_stuck, F_is_integer, b_is_integer, N_is_integer, isTys, List.any_cons, List.any_nil, isTy, dNot, Bool.or_false, Bool.not_true, isNb, Bool.not_false, h1]
section
variable {hd cs : Str} {xs : List D} {rows : List Row} (h1 : IsHeld hd) (h2 : IsCols cs) (hp : ∀ d ∈ xs, IsSt d) (hl : xs.length ≤ 5) (hsm : SmOk hd xs rows) (hr : ∀ r ∈ rows, IsMk r.m) (S : Sto)
include h1 h2 hp hl hsm hr
theorem good_1 : F_law_refused_3 [.int 1, .prg hd xs cs, .lst (rows.map Row.d)] S = .ok .non S := by
  refine ref_ok (v := .lst ((stepsF hd xs rows).map Row.d)) ?_
  have e := done_ok (cs := cs) h1 hp hsm hr S
  simp only [evDef, startE, evSs, evEs, evO, evIf, evSrc, s_it1, s_it2, s_it3, e_lit, e_glob, e_var, e_pk, e_tup, e_lst, e_bin, e_star, e_neg, e_cmp, e_isN, e_chain, e_and, e_or, e_not, e_ite, e_idx, e_slice, e_fld, e_call, e_blt, e_isi, e_join, e_comp, e_dcomp, e_dic0, e_cidx, e_cell, e_cget, e_clen, e_ccat, v_asg, v_asgO, v_unp, v_par, v_setI, v_setK, v_aug, v_app, v_exp, v_ret, v_retO, v_retN, v_ite, v_for_, v_pass, v_never, v_frz, v_cset, immAt, pkAt, MP.setI, ownAt, lstOwn, dicOwn, MP.setO, List.map_cons, List.map_nil, List.length_cons, List.length_nil, List.cons_append, List.nil_append, List.getElem?_cons_zero, List.getElem?_cons_succ, R.of_some, R.of_none, R.bind_ok, RS.of_ok, RS.seq_nx, RS.seq_ret, nc0, nc1, nc2, nc3, nc4, nc5, nc6, nc7, nc8, nc9, s_bind, s_map, s_eqI, s_neI, s_eqS, s_neS, atI_0, atI_1, atI_2, atI_3, s_int1, s_int2, s_max, s_mod, s_ix1, s_ix2, s_len1, s_len2, s_list1, s_list2, s_list3, s_tup1, s_tup2, decide_true, decide_false, if_true, if_false, s_ge, s_lt, s_le, s_gt, s_truth, List.set_cons_zero, List.set_cons_succ, s_mul, Bool.or_true, s_add1, s_add3, s_add4, s_sub, s_fdiv, Bool.and_true, Bool.false_eq_true, List.replicate, Nat.reduceAdd, Nat.reduceSub, Int.reduceAdd, Int.reduceSub, Int.reduceMul, fnL, constF, newCell, R.bind_stuck, F_law_ask, b_law_ask, N_law_ask, e, Int.reduceEq]
theorem good_2 : F_law_refused_3 [.int 2, .prg hd xs cs, .lst (rows.map Row.d)] S = .ok (.str "other") S := by
  refine ref_exc5 (v := .int 99) ?_
  have e := done_by_bad (hd := hd) (cs := cs) (xs := xs) hr S (not_int (i := 99) (m := (xs.length : Int)) (by omega) S)
  simp only [evDef, startE, evSs, evEs, evO, evIf, evSrc, s_it1, s_it2, s_it3, e_lit, e_glob, e_var, e_pk, e_tup, e_lst, e_bin, e_star, e_neg, e_cmp, e_isN, e_chain, e_and, e_or, e_not, e_ite, e_idx, e_slice, e_fld, e_call, e_blt, e_isi, e_join, e_comp, e_dcomp, e_dic0, e_cidx, e_cell, e_cget, e_clen, e_ccat, v_asg, v_asgO, v_unp, v_par, v_setI, v_setK, v_aug, v_app, v_exp, v_ret, v_retO, v_retN, v_ite, v_for_, v_pass, v_never, v_frz, v_cset, immAt, pkAt, MP.setI, ownAt, lstOwn, dicOwn, MP.setO, List.map_cons, List.map_nil, List.length_cons, List.length_nil, List.cons_append, List.nil_append, List.getElem?_cons_zero, List.getElem?_cons_succ, R.of_some, R.of_none, R.bind_ok, RS.of_ok, RS.seq_nx, RS.seq_ret, nc0, nc1, nc2, nc3, nc4, nc5, nc6, nc7, nc8, nc9, s_bind, s_map, s_eqI, s_neI, s_eqS, s_neS, atI_0, atI_1, atI_2, atI_3, s_int1, s_int2, s_max, s_mod, s_ix1, s_ix2, s_len1, s_len2, s_list1, s_list2, s_list3, s_tup1, s_tup2, decide_true, decide_false, if_true, if_false, s_ge, s_lt, s_le, s_gt, s_truth, List.set_cons_zero, List.set_cons_succ, s_mul, Bool.or_true, s_add1, s_add3, s_add4, s_sub, s_fdiv, Bool.and_true, Bool.false_eq_true, List.replicate, Nat.reduceAdd, Nat.reduceSub, Int.reduceAdd, Int.reduceSub, Int.reduceMul, fnL, constF, newCell, R.bind_stuck, F_law_ask, b_law_ask, N_law_ask, e, RS.of_exc, RS.seq_exc, Int.reduceEq]
theorem good_3 : F_law_refused_3 [.int 3, .prg hd xs cs, .lst (rows.map Row.d)] S = .ok .non S := by
  refine ref_ok (v := .lst (toldF hd xs cs rows)) ?_
  have e := told_ok2 h1 h2 hp hsm hr S
  simp only [evDef, startE, evSs, evEs, evO, evIf, evSrc, s_it1, s_it2, s_it3, e_lit, e_glob, e_var, e_pk, e_tup, e_lst, e_bin, e_star, e_neg, e_cmp, e_isN, e_chain, e_and, e_or, e_not, e_ite, e_idx, e_slice, e_fld, e_call, e_blt, e_isi, e_join, e_comp, e_dcomp, e_dic0, e_cidx, e_cell, e_cget, e_clen, e_ccat, v_asg, v_asgO, v_unp, v_par, v_setI, v_setK, v_aug, v_app, v_exp, v_ret, v_retO, v_retN, v_ite, v_for_, v_pass, v_never, v_frz, v_cset, immAt, pkAt, MP.setI, ownAt, lstOwn, dicOwn, MP.setO, List.map_cons, List.map_nil, List.length_cons, List.length_nil, List.cons_append, List.nil_append, List.getElem?_cons_zero, List.getElem?_cons_succ, R.of_some, R.of_none, R.bind_ok, RS.of_ok, RS.seq_nx, RS.seq_ret, nc0, nc1, nc2, nc3, nc4, nc5, nc6, nc7, nc8, nc9, s_bind, s_map, s_eqI, s_neI, s_eqS, s_neS, atI_0, atI_1, atI_2, atI_3, s_int1, s_int2, s_max, s_mod, s_ix1, s_ix2, s_len1, s_len2, s_list1, s_list2, s_list3, s_tup1, s_tup2, decide_true, decide_false, if_true, if_false, s_ge, s_lt, s_le, s_gt, s_truth, List.set_cons_zero, List.set_cons_succ, s_mul, Bool.or_true, s_add1, s_add3, s_add4, s_sub, s_fdiv, Bool.and_true, Bool.false_eq_true, List.replicate, Nat.reduceAdd, Nat.reduceSub, Int.reduceAdd, Int.reduceSub, Int.reduceMul, fnL, constF, newCell, R.bind_stuck, F_law_ask, b_law_ask, N_law_ask, e, Int.reduceEq]
theorem good_4 : F_law_refused_3 [.int 4, .prg hd xs cs, .lst (rows.map Row.d)] S = .ok (.str "other") S := by
  refine ref_exc5 (v := .int (-1)) ?_
  have e : F_worth_of [.dic [], .lst (rows.map Row.d), .int (-1)] S = .exc ⟨5, some (.int (-1))⟩ S := by
    have e1 := check_ok hr S
    have e2 := fun m => not_int (i := -1) (m := m) (by omega) S
    simp only [evDef, startE, evSs, evEs, evO, evIf, evSrc, s_it1, s_it2, s_it3, e_lit, e_glob, e_var, e_pk, e_tup, e_lst, e_bin, e_star, e_neg, e_cmp, e_isN, e_chain, e_and, e_or, e_not, e_ite, e_idx, e_slice, e_fld, e_call, e_blt, e_isi, e_join, e_comp, e_dcomp, e_dic0, e_cidx, e_cell, e_cget, e_clen, e_ccat, v_asg, v_asgO, v_unp, v_par, v_setI, v_setK, v_aug, v_app, v_exp, v_ret, v_retO, v_retN, v_ite, v_for_, v_pass, v_never, v_frz, v_cset, immAt, pkAt, MP.setI, ownAt, lstOwn, dicOwn, MP.setO, List.map_cons, List.map_nil, List.length_cons, List.length_nil, List.cons_append, List.nil_append, List.getElem?_cons_zero, List.getElem?_cons_succ, R.of_some, R.of_none, R.bind_ok, RS.of_ok, RS.seq_nx, RS.seq_ret, nc0, nc1, nc2, nc3, nc4, nc5, nc6, nc7, nc8, nc9, s_bind, s_map, s_eqI, s_neI, s_eqS, s_neS, atI_0, atI_1, atI_2, atI_3, s_int1, s_int2, s_max, s_mod, s_ix1, s_ix2, s_len1, s_len2, s_list1, s_list2, s_list3, s_tup1, s_tup2, decide_true, decide_false, if_true, if_false, s_ge, s_lt, s_le, s_gt, s_truth, List.set_cons_zero, List.set_cons_succ, s_mul, Bool.or_true, s_add1, s_add3, s_add4, s_sub, s_fdiv, Bool.and_true, Bool.false_eq_true, List.replicate, Nat.reduceAdd, Nat.reduceSub, Int.reduceAdd, Int.reduceSub, Int.reduceMul, fnL, constF, newCell, R.bind_stuck, F_worth_of, b_worth_of, N_worth_of, e1, e2, dNot, Bool.not_false, v_rais1, RS.seq_exc]
  simp only [evDef, startE, evSs, evEs, evO, evIf, evSrc, s_it1, s_it2, s_it3, e_lit, e_glob, e_var, e_pk, e_tup, e_lst, e_bin, e_star, e_neg, e_cmp, e_isN, e_chain, e_and, e_or, e_not, e_ite, e_idx, e_slice, e_fld, e_call, e_blt, e_isi, e_join, e_comp, e_dcomp, e_dic0, e_cidx, e_cell, e_cget, e_clen, e_ccat, v_asg, v_asgO, v_unp, v_par, v_setI, v_setK, v_aug, v_app, v_exp, v_ret, v_retO, v_retN, v_ite, v_for_, v_pass, v_never, v_frz, v_cset, immAt, pkAt, MP.setI, ownAt, lstOwn, dicOwn, MP.setO, List.map_cons, List.map_nil, List.length_cons, List.length_nil, List.cons_append, List.nil_append, List.getElem?_cons_zero, List.getElem?_cons_succ, R.of_some, R.of_none, R.bind_ok, RS.of_ok, RS.seq_nx, RS.seq_ret, nc0, nc1, nc2, nc3, nc4, nc5, nc6, nc7, nc8, nc9, s_bind, s_map, s_eqI, s_neI, s_eqS, s_neS, atI_0, atI_1, atI_2, atI_3, s_int1, s_int2, s_max, s_mod, s_ix1, s_ix2, s_len1, s_len2, s_list1, s_list2, s_list3, s_tup1, s_tup2, decide_true, decide_false, if_true, if_false, s_ge, s_lt, s_le, s_gt, s_truth, List.set_cons_zero, List.set_cons_succ, s_mul, Bool.or_true, s_add1, s_add3, s_add4, s_sub, s_fdiv, Bool.and_true, Bool.false_eq_true, List.replicate, Nat.reduceAdd, Nat.reduceSub, Int.reduceAdd, Int.reduceSub, Int.reduceMul, fnL, constF, newCell, R.bind_stuck, F_law_ask, b_law_ask, N_law_ask, e, RS.of_exc, RS.seq_exc, Int.reduceEq]
theorem good_5 : F_law_refused_3 [.int 5, .prg hd xs cs, .lst (rows.map Row.d)] S = .ok (.int (-1)) S := by
  refine ref_exc1 ?_
  have e : F_is_leak [.prg hd xs cs, .lst (rows.map Row.d), .non] S = .exc ⟨1, some (.int (-1))⟩ S := by
    have e1 := check_ok hr S
    have e2 := check_non S
    simp only [evDef, startE, evSs, evEs, evO, evIf, evSrc, s_it1, s_it2, s_it3, e_lit, e_glob, e_var, e_pk, e_tup, e_lst, e_bin, e_star, e_neg, e_cmp, e_isN, e_chain, e_and, e_or, e_not, e_ite, e_idx, e_slice, e_fld, e_call, e_blt, e_isi, e_join, e_comp, e_dcomp, e_dic0, e_cidx, e_cell, e_cget, e_clen, e_ccat, v_asg, v_asgO, v_unp, v_par, v_setI, v_setK, v_aug, v_app, v_exp, v_ret, v_retO, v_retN, v_ite, v_for_, v_pass, v_never, v_frz, v_cset, immAt, pkAt, MP.setI, ownAt, lstOwn, dicOwn, MP.setO, List.map_cons, List.map_nil, List.length_cons, List.length_nil, List.cons_append, List.nil_append, List.getElem?_cons_zero, List.getElem?_cons_succ, R.of_some, R.of_none, R.bind_ok, RS.of_ok, RS.seq_nx, RS.seq_ret, nc0, nc1, nc2, nc3, nc4, nc5, nc6, nc7, nc8, nc9, s_bind, s_map, s_eqI, s_neI, s_eqS, s_neS, atI_0, atI_1, atI_2, atI_3, s_int1, s_int2, s_max, s_mod, s_ix1, s_ix2, s_len1, s_len2, s_list1, s_list2, s_list3, s_tup1, s_tup2, decide_true, decide_false, if_true, if_false, s_ge, s_lt, s_le, s_gt, s_truth, List.set_cons_zero, List.set_cons_succ, s_mul, Bool.or_true, s_add1, s_add3, s_add4, s_sub, s_fdiv, Bool.and_true, Bool.false_eq_true, List.replicate, Nat.reduceAdd, Nat.reduceSub, Int.reduceAdd, Int.reduceSub, Int.reduceMul, fnL, constF, newCell, R.bind_stuck, F_is_leak, b_is_leak, N_is_leak, e1, e2, RS.of_exc, RS.seq_exc]
  simp only [evDef, startE, evSs, evEs, evO, evIf, evSrc, s_it1, s_it2, s_it3, e_lit, e_glob, e_var, e_pk, e_tup, e_lst, e_bin, e_star, e_neg, e_cmp, e_isN, e_chain, e_and, e_or, e_not, e_ite, e_idx, e_slice, e_fld, e_call, e_blt, e_isi, e_join, e_comp, e_dcomp, e_dic0, e_cidx, e_cell, e_cget, e_clen, e_ccat, v_asg, v_asgO, v_unp, v_par, v_setI, v_setK, v_aug, v_app, v_exp, v_ret, v_retO, v_retN, v_ite, v_for_, v_pass, v_never, v_frz, v_cset, immAt, pkAt, MP.setI, ownAt, lstOwn, dicOwn, MP.setO, List.map_cons, List.map_nil, List.length_cons, List.length_nil, List.cons_append, List.nil_append, List.getElem?_cons_zero, List.getElem?_cons_succ, R.of_some, R.of_none, R.bind_ok, RS.of_ok, RS.seq_nx, RS.seq_ret, nc0, nc1, nc2, nc3, nc4, nc5, nc6, nc7, nc8, nc9, s_bind, s_map, s_eqI, s_neI, s_eqS, s_neS, atI_0, atI_1, atI_2, atI_3, s_int1, s_int2, s_max, s_mod, s_ix1, s_ix2, s_len1, s_len2, s_list1, s_list2, s_list3, s_tup1, s_tup2, decide_true, decide_false, if_true, if_false, s_ge, s_lt, s_le, s_gt, s_truth, List.set_cons_zero, List.set_cons_succ, s_mul, Bool.or_true, s_add1, s_add3, s_add4, s_sub, s_fdiv, Bool.and_true, Bool.false_eq_true, List.replicate, Nat.reduceAdd, Nat.reduceSub, Int.reduceAdd, Int.reduceSub, Int.reduceMul, fnL, constF, newCell, R.bind_stuck, F_law_ask, b_law_ask, N_law_ask, e, RS.of_exc, RS.seq_exc, Int.reduceEq]
theorem good_6 : ∃ T, F_law_refused_3 [.int 6, .prg hd xs cs, .lst (rows.map Row.d)] S = .ok .non (S ++ T) := by
  obtain ⟨T, e⟩ := desk_ok (p := .prg hd xs cs) S (fun S => check_ok hr S)
  refine ⟨T, ref_ok (v := .ref S.length) ?_⟩
  simp only [evDef, startE, evSs, evEs, evO, evIf, evSrc, s_it1, s_it2, s_it3, e_lit, e_glob, e_var, e_pk, e_tup, e_lst, e_bin, e_star, e_neg, e_cmp, e_isN, e_chain, e_and, e_or, e_not, e_ite, e_idx, e_slice, e_fld, e_call, e_blt, e_isi, e_join, e_comp, e_dcomp, e_dic0, e_cidx, e_cell, e_cget, e_clen, e_ccat, v_asg, v_asgO, v_unp, v_par, v_setI, v_setK, v_aug, v_app, v_exp, v_ret, v_retO, v_retN, v_ite, v_for_, v_pass, v_never, v_frz, v_cset, immAt, pkAt, MP.setI, ownAt, lstOwn, dicOwn, MP.setO, List.map_cons, List.map_nil, List.length_cons, List.length_nil, List.cons_append, List.nil_append, List.getElem?_cons_zero, List.getElem?_cons_succ, R.of_some, R.of_none, R.bind_ok, RS.of_ok, RS.seq_nx, RS.seq_ret, nc0, nc1, nc2, nc3, nc4, nc5, nc6, nc7, nc8, nc9, s_bind, s_map, s_eqI, s_neI, s_eqS, s_neS, atI_0, atI_1, atI_2, atI_3, s_int1, s_int2, s_max, s_mod, s_ix1, s_ix2, s_len1, s_len2, s_list1, s_list2, s_list3, s_tup1, s_tup2, decide_true, decide_false, if_true, if_false, s_ge, s_lt, s_le, s_gt, s_truth, List.set_cons_zero, List.set_cons_succ, s_mul, Bool.or_true, s_add1, s_add3, s_add4, s_sub, s_fdiv, Bool.and_true, Bool.false_eq_true, List.replicate, Nat.reduceAdd, Nat.reduceSub, Int.reduceAdd, Int.reduceSub, Int.reduceMul, fnL, constF, newCell, R.bind_stuck, F_law_ask, b_law_ask, N_law_ask, e, Int.reduceEq]
end
end PG

namespace PG
open PySem MP
abbrev fk2 : Nat → FS := fnL [F_law_mix, F_law_built, F_law_parts, F_law_table, F_law_next, F_law_pick, (F_law_alike 6), F_law_refused_3, F_check_table]
abbrev bIn : List MP.St := [.ite (.not (.call 6 [.call 7 [.var 5, .var 7, .var 4], .var 9])) [.ret (.lit (.bl false))] [],
  .ite (.or (.cmp .ne (.call 7 [.var 5, .var 7, .blt .tuple [.var 8]]) (.neg (.lit (.int 1)))) (.cmp .ne (.call 7 [.var 5, .var 7, .lit (.non)]) (.neg (.lit (.int 1))))) [.ret (.lit (.bl false))] []]
theorem cut_drop (xs : List D) {n : Nat} (h : n ≤ xs.length) : cut xs (some (n : Int)) none = xs.drop n := by
  unfold cut
  rw [HT.sIx_nat]
  simp [HT.sIx_none, Nat.min_eq_left h]
  try rw [List.take_of_length_le (by rw [List.length_drop]; omega)]
theorem in_turn {p w : D} {xs : List D} {r : Int} {s0 s1 s2 s3 s6 s10 : MP.Slot} {d : D} {T S : Sto} (hs : HSt T S) (hk : K7 d) (hw : ∀ S, F_check_table [w] S = .exc ⟨1, some (.int r)⟩ S) :
    ∃ T' S', HSt T' S' ∧ evSs fk2 [s0, s1, s2, s3, .imm w, .imm d, s6, .imm p, .imm (.lst xs), .imm (.int r), s10] bIn S = .nx [s0, s1, s2, s3, .imm w, .imm d, s6, .imm p, .imm (.lst xs), .imm (.int r), s10] S' := by
  obtain ⟨T1, a1⟩ := ask_bad (p := p) S hk hw
  have r1 := ref_exc1 a1
  obtain ⟨T2, a2⟩ := ask_bad (p := p) (S ++ T1) hk (check_tup xs)
  have r2 := ref_exc1 a2
  obtain ⟨T3, a3⟩ := ask_bad (p := p) (S ++ T1 ++ T2) hk check_non
  have r3 := ref_exc1 a3
  have al := alike_flat (n := 5) (d := .int r) rfl (S ++ T1)
  refine ⟨_, _, ((hs.app T1).app T2).app T3, ?_⟩
  simp only [evDef, startE, evSs, evEs, evO, evIf, evSrc, s_it1, s_it2, s_it3, e_lit, e_glob, e_var, e_pk, e_tup, e_lst, e_bin, e_star, e_neg, e_cmp, e_isN, e_chain, e_and, e_or, e_not, e_ite, e_idx, e_slice, e_fld, e_call, e_blt, e_isi, e_join, e_comp, e_dcomp, e_dic0, e_cidx, e_cell, e_cget, e_clen, e_ccat, v_asg, v_asgO, v_unp, v_par, v_setI, v_setK, v_aug, v_app, v_exp, v_ret, v_retO, v_retN, v_ite, v_for_, v_pass, v_never, v_frz, v_cset, immAt, pkAt, MP.setI, ownAt, lstOwn, dicOwn, MP.setO, List.map_cons, List.map_nil, List.length_cons, List.length_nil, List.cons_append, List.nil_append, List.getElem?_cons_zero, List.getElem?_cons_succ, R.of_some, R.of_none, R.bind_ok, RS.of_ok, RS.seq_nx, RS.seq_ret, nc0, nc1, nc2, nc3, nc4, nc5, nc6, nc7, nc8, nc9, s_bind, s_map, s_eqI, s_neI, s_eqS, s_neS, atI_0, atI_1, atI_2, atI_3, s_int1, s_int2, s_max, s_mod, s_ix1, s_ix2, s_len1, s_len2, s_list1, s_list2, s_list3, s_tup1, s_tup2, decide_true, decide_false, if_true, if_false, s_ge, s_lt, s_le, s_gt, s_truth, List.set_cons_zero, List.set_cons_succ, s_mul, Bool.or_true, s_add1, s_add3, s_add4, s_sub, s_fdiv, Bool.and_true, Bool.false_eq_true, List.replicate, Nat.reduceAdd, Nat.reduceSub, Int.reduceAdd, Int.reduceSub, Int.reduceMul, fnL, constF, newCell, R.bind_stuck, r1, al, dNot, Bool.not_true, r2, r3, eq_self]
theorem in_loop {p w : D} {xs : List D} {r : Int} {s0 s1 s2 s3 s6 s10 : MP.Slot} (hw : ∀ S, F_check_table [w] S = .exc ⟨1, some (.int r)⟩ S) : ∀ {ds : List D} {s5 : MP.Slot} {T S : Sto}, (∀ d ∈ ds, K7 d) → HSt T S →
    ∃ t5 T' S', HSt T' S' ∧ forS fk2 (.one 5) bIn ds [s0, s1, s2, s3, .imm w, s5, s6, .imm p, .imm (.lst xs), .imm (.int r), s10] S = .nx [s0, s1, s2, s3, .imm w, t5, s6, .imm p, .imm (.lst xs), .imm (.int r), s10] S'
  | [], s5, T, S, _, hs => ⟨s5, T, S, hs, rfl⟩
  | d :: ds, s5, T, S, h, hs => by
    obtain ⟨T1, S1, hs1, e1⟩ := in_turn (p := p) (xs := xs) (s0 := s0) (s1 := s1) (s2 := s2) (s3 := s3) (s6 := s6) (s10 := s10) hs (h d List.mem_cons_self) hw
    obtain ⟨t5, T2, S2, hs2, e2⟩ := in_loop hw (p := p) (xs := xs) (s0 := s0) (s1 := s1) (s2 := s2) (s3 := s3) (s6 := s6) (s10 := s10) (ds := ds) (s5 := .imm d) (fun e he => h e (List.mem_cons_of_mem _ he)) hs1
    refine ⟨t5, T2, S2, hs2, ?_⟩
    rw [← e2]
    exact forS_step rfl e1
abbrev bOdd : List MP.St := [.asg 2 (.lst [.lit (.non), .lit (.int 5), .lit (.str "row"), .tup [.lit (.str "a"), .lit (.int 1)], .tup [.lit (.str "a"), .lit (.int 1), .lit (.int 2), .lit (.int 3)], .lst [.lit (.str "a"), .lit (.int 1), .lit (.int 2)], .tup [.lit (.str "d"), .lit (.int 1), .lit (.int 2)], .tup [.lit (.str "ab"), .lit (.int 1), .lit (.int 2)]]),
  .asg 2 (.bin .add (.var 2) (.lst [.tup [.lit (.str ""), .lit (.int 1), .lit (.int 2)], .tup [.lit (.str "a"), .lit (.bl true), .lit (.int 1)], .tup [.lit (.str "a"), .lit (.int 1), .lit (.str "2")]])),
  .asg 2 (.bin .add (.var 2) (.lst [.tup [.lit (.str "a"), .lit (.int 1), .tup [.lit (.int 1)]], .tup [.lit (.non), .lit (.int 1), .lit (.int 2)], .tup [.lit (.int 1), .lit (.int 1), .lit (.int 2)], .dic0, .tup [], .tup [.lit (.str "a"), .lst [], .lit (.non)], .tup [.lit (.str "b"), .lit (.non), .lit (.bl false)]]))]
theorem odd_made (fn : Nat → FS) (a : MP.Slot) (S : Sto) : evSs fn [a, .imm (.ref 1), .no, .no, .no, .no, .no, .no, .no, .no, .no] bOdd S = .nx [a, .imm (.ref 1), .imm (.lst oddR), .no, .no, .no, .no, .no, .no, .no, .no] S := by kernel_rfl
theorem ne_ans : dCmp .ne (.lst [D.non, .str "other", .non, .str "other", .non]) (.lst [D.non, .str "other", .non, .str "other", .non]) = some false := ne_self rfl
theorem rng7 : ∀ d ∈ rngItems 0 7, K7 d := by
  have e : rngItems 0 7 = [D.int 0, .int 1, .int 2, .int 3, .int 4, .int 5, .int 6] := rfl
  intro d hd
  rw [e] at hd
  simpa [K7] using hd
abbrev bTurn : List MP.St := [.par [(false, 7), (false, 8)] [.call 1 [.call 2 [.var 1, .lit (.int 3)]], .call 3 [.var 1, .lit (.int 5)]],
  .par [(false, 9), (false, 10)] [.call 4 [.var 1, .bin .add (.blt .len [.var 8]) (.lit (.int 1))], .call 5 [.var 1, .var 2]],
  .asg 4 (.bin .add (.bin .add (.bin .add (.slice (.var 8) none (some (.var 9))) (.lst [.var 10])) (.slice (.var 8) (some (.var 9)) none)) (.lst [.lit (.non)])),
  .for_ (.one 5) (.rng [.lit (.int 7)]) bIn,
  .ite (.or (.isN true (.call 8 [.var 8])) (.cmp .ne (.call 7 [.lit (.int 5), .var 7, .var 8]) (.neg (.lit (.int 1))))) [.ret (.lit (.bl false))] [],
  .asg 6 (.comp [5] (.one 5) (.val (.lst [.lit (.int 1), .lit (.int 2), .lit (.int 3), .lit (.int 4), .lit (.int 6)])) none (.call 7 [.var 5, .var 7, .var 8])),
  .ite (.cmp .ne (.var 6) (.lst [.lit (.non), .lit (.str "other"), .lit (.non), .lit (.str "other"), .lit (.non)])) [.ret (.lit (.bl false))] []]
theorem turn_ok {ns : List Int} {s3 s4 s5 s6 s7 s8 s9 s10 : MP.Slot} {T S : Sto} (hs : HSt T S) : ∃ t4 t5 t6 t7 t8 t9 t10 T' S', HSt T' S' ∧
    evSs fk2 [.imm (.scr ns), .imm (.ref 1), .imm (.lst oddR), s3, s4, s5, s6, s7, s8, s9, s10] bTurn S = .nx [.imm (.scr ns), .imm (.ref 1), .imm (.lst oddR), s3, t4, t5, t6, t7, t8, t9, t10] S' := by
  obtain ⟨_, S1, e1, ⟨hd, xs, cs, rfl, q1, q2, q3, q4⟩, h1⟩ := parts_okM (mo := 3) (by decide) (by decide) hs
  have e2 := built_ok q1 q2 q3 q4 S1
  obtain ⟨_, S2, e3, ⟨rs, rfl, q5, q6⟩, h2⟩ := table_ok (n := 5) h1 (by decide) (by decide)
  obtain ⟨rows, rfl, q7, q8, q9⟩ := rows_of q5
  have hn : rows.length ≤ 9 := by omega
  have sm : SmOk hd xs rows := sm_of q2.all q2.one q9 (by decide) (by omega) (by
    have : (32 : Int) ^ xs.length ≤ 32 ^ 5 := by
      match xs.length, q3 with
      | 0, _ | 1, _ | 2, _ | 3, _ | 4, _ | 5, _ => decide
    omega)
  obtain ⟨N, hN⟩ : ∃ N : Int, N = (rows.length : Int) := ⟨_, rfl⟩
  have eLen : dBlt .len [.lst (rows.map Row.d)] = some (.int N) := by rw [hN, s_len1, List.length_map]
  obtain ⟨_, S3, e4, r, rfl, r0, r1, h3⟩ := next_ok (cap := N + 1) h2 (by omega) (by omega)
  obtain ⟨o, S4, e5, ho, h4⟩ := pick_ok (xs := oddR) h3 (by decide) (by decide)
  obtain ⟨n, rfl⟩ := Int.eq_ofNat_of_zero_le r0
  have hnn : n ≤ rows.length := by omega
  have v1 : evS fk2 [.imm (.scr ns), .imm (.ref 1), .imm (.lst oddR), s3, s4, s5, s6, s7, s8, s9, s10] (.par [(false, 7), (false, 8)] [.call 1 [.call 2 [.var 1, .lit (.int 3)]], .call 3 [.var 1, .lit (.int 5)]]) S =
      .nx [.imm (.scr ns), .imm (.ref 1), .imm (.lst oddR), s3, s4, s5, s6, .imm (.prg hd xs cs), .imm (.lst (rows.map Row.d)), s9, s10] S2 := by
    simp only [evDef, startE, evSs, evEs, evO, evIf, evSrc, s_it1, s_it2, s_it3, e_lit, e_glob, e_var, e_pk, e_tup, e_lst, e_bin, e_star, e_neg, e_cmp, e_isN, e_chain, e_and, e_or, e_not, e_ite, e_idx, e_slice, e_fld, e_call, e_blt, e_isi, e_join, e_comp, e_dcomp, e_dic0, e_cidx, e_cell, e_cget, e_clen, e_ccat, v_asg, v_asgO, v_unp, v_par, v_setI, v_setK, v_aug, v_app, v_exp, v_ret, v_retO, v_retN, v_ite, v_for_, v_pass, v_never, v_frz, v_cset, immAt, pkAt, MP.setI, ownAt, lstOwn, dicOwn, MP.setO, List.map_cons, List.map_nil, List.length_cons, List.length_nil, List.cons_append, List.nil_append, List.getElem?_cons_zero, List.getElem?_cons_succ, R.of_some, R.of_none, R.bind_ok, RS.of_ok, RS.seq_nx, RS.seq_ret, nc0, nc1, nc2, nc3, nc4, nc5, nc6, nc7, nc8, nc9, s_bind, s_map, s_eqI, s_neI, s_eqS, s_neS, atI_0, atI_1, atI_2, atI_3, s_int1, s_int2, s_max, s_mod, s_ix1, s_ix2, s_len1, s_len2, s_list1, s_list2, s_list3, s_tup1, s_tup2, decide_true, decide_false, if_true, if_false, s_ge, s_lt, s_le, s_gt, s_truth, List.set_cons_zero, List.set_cons_succ, s_mul, Bool.or_true, s_add1, s_add3, s_add4, s_sub, s_fdiv, Bool.and_true, Bool.false_eq_true, List.replicate, Nat.reduceAdd, Nat.reduceSub, Int.reduceAdd, Int.reduceSub, Int.reduceMul, fnL, constF, newCell, R.bind_stuck, e1, e2, e3, MP.setPar, Bool.false_and]
  have v2 : evS fk2 [.imm (.scr ns), .imm (.ref 1), .imm (.lst oddR), s3, s4, s5, s6, .imm (.prg hd xs cs), .imm (.lst (rows.map Row.d)), s9, s10] (.par [(false, 9), (false, 10)] [.call 4 [.var 1, .bin .add (.blt .len [.var 8]) (.lit (.int 1))], .call 5 [.var 1, .var 2]]) S2 =
      .nx [.imm (.scr ns), .imm (.ref 1), .imm (.lst oddR), s3, s4, s5, s6, .imm (.prg hd xs cs), .imm (.lst (rows.map Row.d)), .imm (.int (n : Int)), .imm o] S4 := by
    simp only [evDef, startE, evSs, evEs, evO, evIf, evSrc, s_it1, s_it2, s_it3, e_lit, e_glob, e_var, e_pk, e_tup, e_lst, e_bin, e_star, e_neg, e_cmp, e_isN, e_chain, e_and, e_or, e_not, e_ite, e_idx, e_slice, e_fld, e_call, e_blt, e_isi, e_join, e_comp, e_dcomp, e_dic0, e_cidx, e_cell, e_cget, e_clen, e_ccat, v_asg, v_asgO, v_unp, v_par, v_setI, v_setK, v_aug, v_app, v_exp, v_ret, v_retO, v_retN, v_ite, v_for_, v_pass, v_never, v_frz, v_cset, immAt, pkAt, MP.setI, ownAt, lstOwn, dicOwn, MP.setO, List.map_cons, List.map_nil, List.length_cons, List.length_nil, List.cons_append, List.nil_append, List.getElem?_cons_zero, List.getElem?_cons_succ, R.of_some, R.of_none, R.bind_ok, RS.of_ok, RS.seq_nx, RS.seq_ret, nc0, nc1, nc2, nc3, nc4, nc5, nc6, nc7, nc8, nc9, s_bind, s_map, s_eqI, s_neI, s_eqS, s_neS, atI_0, atI_1, atI_2, atI_3, s_int1, s_int2, s_max, s_mod, s_ix1, s_ix2, s_list1, s_list2, s_list3, s_tup1, s_tup2, decide_true, decide_false, if_true, if_false, s_ge, s_lt, s_le, s_gt, s_truth, List.set_cons_zero, List.set_cons_succ, s_mul, Bool.or_true, s_add1, s_add3, s_add4, s_sub, s_fdiv, Bool.and_true, Bool.false_eq_true, List.replicate, Nat.reduceAdd, Nat.reduceSub, Int.reduceAdd, Int.reduceSub, Int.reduceMul, fnL, constF, newCell, R.bind_stuck, e4, e5, eLen, MP.setPar, Bool.false_and]
  have mk : ∀ xs : List D, xs.length ≤ 1000 → mkLst xs = some (.lst xs) := fun xs h => mkL_of (n := xs.length) rfl (by omega)
  have c0 : dSlice (.lst (rows.map Row.d)) none (some (n : Int)) = some (.lst ((rows.map Row.d).take n)) := by rw [← cut_take]; rfl
  have c1 : dSlice (.lst (rows.map Row.d)) (some (n : Int)) none = some (.lst ((rows.map Row.d).drop n)) := by rw [← cut_drop _ (by rw [List.length_map]; exact hnn)]; rfl
  have m1 : mkLst [o] = some (.lst [o]) := mk _ (by simp)
  have m2 : mkLst [D.non] = some (.lst [D.non]) := mk _ (by simp)
  have m3 : mkLst ((rows.map Row.d).take n ++ [o]) = some (.lst ((rows.map Row.d).take n ++ [o])) := mk _ (by simp; omega)
  have m4 : mkLst ((rows.map Row.d).take n ++ [o] ++ (rows.map Row.d).drop n) = some (.lst ((rows.map Row.d).take n ++ [o] ++ (rows.map Row.d).drop n)) := mk _ (by simp; omega)
  have m5 : mkLst ((rows.map Row.d).take n ++ [o] ++ (rows.map Row.d).drop n ++ [D.non]) = some (.lst ((rows.map Row.d).take n ++ [o] ++ (rows.map Row.d).drop n ++ [D.non])) := mk _ (by simp; omega)
  obtain ⟨W, hW⟩ : ∃ W : D, W = .lst ((rows.map Row.d).take n ++ [o] ++ (rows.map Row.d).drop n ++ [D.non]) := ⟨_, rfl⟩
  have v3 : evS fk2 [.imm (.scr ns), .imm (.ref 1), .imm (.lst oddR), s3, s4, s5, s6, .imm (.prg hd xs cs), .imm (.lst (rows.map Row.d)), .imm (.int (n : Int)), .imm o] (.asg 4 (.bin .add (.bin .add (.bin .add (.slice (.var 8) none (some (.var 9))) (.lst [.var 10])) (.slice (.var 8) (some (.var 9)) none)) (.lst [.lit (.non)]))) S4 =
      .nx [.imm (.scr ns), .imm (.ref 1), .imm (.lst oddR), s3, .imm W, s5, s6, .imm (.prg hd xs cs), .imm (.lst (rows.map Row.d)), .imm (.int (n : Int)), .imm o] S4 := by
    rw [hW]
    simp only [evDef, startE, evSs, evEs, evO, evIf, evSrc, s_it1, s_it2, s_it3, e_lit, e_glob, e_var, e_pk, e_tup, e_lst, e_bin, e_star, e_neg, e_cmp, e_isN, e_chain, e_and, e_or, e_not, e_ite, e_idx, e_slice, e_fld, e_call, e_blt, e_isi, e_join, e_comp, e_dcomp, e_dic0, e_cidx, e_cell, e_cget, e_clen, e_ccat, v_asg, v_asgO, v_unp, v_par, v_setI, v_setK, v_aug, v_app, v_exp, v_ret, v_retO, v_retN, v_ite, v_for_, v_pass, v_never, v_frz, v_cset, immAt, pkAt, MP.setI, ownAt, lstOwn, dicOwn, MP.setO, List.map_cons, List.map_nil, List.length_cons, List.length_nil, List.cons_append, List.nil_append, List.getElem?_cons_zero, List.getElem?_cons_succ, R.of_some, R.of_none, R.bind_ok, RS.of_ok, RS.seq_nx, RS.seq_ret, nc0, nc1, nc2, nc3, nc4, nc5, nc6, nc7, nc8, nc9, s_bind, s_map, s_eqI, s_neI, s_eqS, s_neS, atI_0, atI_1, atI_2, atI_3, s_int1, s_int2, s_max, s_mod, s_ix1, s_ix2, s_len1, s_len2, s_list1, s_list2, s_list3, s_tup1, s_tup2, decide_true, decide_false, if_true, if_false, s_ge, s_lt, s_le, s_gt, s_truth, List.set_cons_zero, List.set_cons_succ, s_mul, Bool.or_true, s_add1, s_add3, s_add4, s_sub, s_fdiv, Bool.and_true, Bool.false_eq_true, List.replicate, Nat.reduceAdd, Nat.reduceSub, Int.reduceAdd, Int.reduceSub, Int.reduceMul, fnL, constF, newCell, R.bind_stuck, asInt, c0, c1, m1, m2, m3, m4, m5]
  have hw : ∀ S, F_check_table [W] S = .exc ⟨1, some (.int (n : Int))⟩ S := fun S => by
    have := check_bad (d := o) (rows := rows.take n) (ts := (rows.drop n).map Row.d ++ [D.non]) (fun r hr => q7 r (List.mem_of_mem_take hr)) S (odd_row ho S)
    rw [List.length_take, Nat.min_eq_left hnn] at this
    rw [← this, hW]
    simp [List.map_take, List.map_drop]
  obtain ⟨t5, T5, S5, h5, el⟩ := in_loop (p := .prg hd xs cs) (xs := rows.map Row.d) (s0 := .imm (.scr ns)) (s1 := .imm (.ref 1)) (s2 := .imm (.lst oddR)) (s3 := s3) (s6 := s6) (s10 := .imm o) hw (ds := rngItems 0 7) (s5 := s5) rng7 h4
  have er : dRng [.int 7] = some (rngItems 0 7) := rfl
  have v4 : evS fk2 [.imm (.scr ns), .imm (.ref 1), .imm (.lst oddR), s3, .imm W, s5, s6, .imm (.prg hd xs cs), .imm (.lst (rows.map Row.d)), .imm (.int (n : Int)), .imm o] (.for_ (.one 5) (.rng [.lit (.int 7)]) bIn) S4 =
      .nx [.imm (.scr ns), .imm (.ref 1), .imm (.lst oddR), s3, .imm W, t5, s6, .imm (.prg hd xs cs), .imm (.lst (rows.map Row.d)), .imm (.int (n : Int)), .imm o] S5 := by
    rw [← el]
    simp only [evDef, startE, evSs, evEs, evO, evIf, evSrc, s_it1, s_it2, s_it3, e_lit, e_glob, e_var, e_pk, e_tup, e_lst, e_bin, e_star, e_neg, e_cmp, e_isN, e_chain, e_and, e_or, e_not, e_ite, e_idx, e_slice, e_fld, e_call, e_blt, e_isi, e_join, e_comp, e_dcomp, e_dic0, e_cidx, e_cell, e_cget, e_clen, e_ccat, v_asg, v_asgO, v_unp, v_par, v_setI, v_setK, v_aug, v_app, v_exp, v_ret, v_retO, v_retN, v_ite, v_for_, v_pass, v_never, v_frz, v_cset, immAt, pkAt, MP.setI, ownAt, lstOwn, dicOwn, MP.setO, List.map_cons, List.map_nil, List.length_cons, List.length_nil, List.cons_append, List.nil_append, List.getElem?_cons_zero, List.getElem?_cons_succ, R.of_some, R.of_none, R.bind_ok, RS.of_ok, RS.seq_nx, RS.seq_ret, nc0, nc1, nc2, nc3, nc4, nc5, nc6, nc7, nc8, nc9, s_bind, s_map, s_eqI, s_neI, s_eqS, s_neS, atI_0, atI_1, atI_2, atI_3, s_int1, s_int2, s_max, s_mod, s_ix1, s_ix2, s_len1, s_len2, s_list1, s_list2, s_list3, s_tup1, s_tup2, decide_true, decide_false, if_true, if_false, s_ge, s_lt, s_le, s_gt, s_truth, List.set_cons_zero, List.set_cons_succ, s_mul, Bool.or_true, s_add1, s_add3, s_add4, s_sub, s_fdiv, Bool.and_true, Bool.false_eq_true, List.replicate, Nat.reduceAdd, Nat.reduceSub, Int.reduceAdd, Int.reduceSub, Int.reduceMul, fnL, constF, newCell, R.bind_stuck, er]
  have ck := check_ok q7 S5
  have g1 := good_1 q1 q4 q2.all q3 sm q7 S5
  have g2 := good_2 q1 q4 q2.all q3 sm q7 S5
  have g3 := good_3 q1 q4 q2.all q3 sm q7 S5
  have g4 := good_4 q1 q4 q2.all q3 sm q7 S5
  have g5 := good_5 q1 q4 q2.all q3 sm q7 S5
  obtain ⟨T6, g6⟩ := good_6 q1 q4 q2.all q3 sm q7 S5
  have v5 : evS fk2 [.imm (.scr ns), .imm (.ref 1), .imm (.lst oddR), s3, .imm W, t5, s6, .imm (.prg hd xs cs), .imm (.lst (rows.map Row.d)), .imm (.int (n : Int)), .imm o] (.ite (.or (.isN true (.call 8 [.var 8])) (.cmp .ne (.call 7 [.lit (.int 5), .var 7, .var 8]) (.neg (.lit (.int 1))))) [.ret (.lit (.bl false))] []) S5 =
      .nx [.imm (.scr ns), .imm (.ref 1), .imm (.lst oddR), s3, .imm W, t5, s6, .imm (.prg hd xs cs), .imm (.lst (rows.map Row.d)), .imm (.int (n : Int)), .imm o] S5 := by
    simp only [evDef, startE, evSs, evEs, evO, evIf, evSrc, s_it1, s_it2, s_it3, e_lit, e_glob, e_var, e_pk, e_tup, e_lst, e_bin, e_star, e_neg, e_cmp, e_isN, e_chain, e_and, e_or, e_not, e_ite, e_idx, e_slice, e_fld, e_call, e_blt, e_isi, e_join, e_comp, e_dcomp, e_dic0, e_cidx, e_cell, e_cget, e_clen, e_ccat, v_asg, v_asgO, v_unp, v_par, v_setI, v_setK, v_aug, v_app, v_exp, v_ret, v_retO, v_retN, v_ite, v_for_, v_pass, v_never, v_frz, v_cset, immAt, pkAt, MP.setI, ownAt, lstOwn, dicOwn, MP.setO, List.map_cons, List.map_nil, List.length_cons, List.length_nil, List.cons_append, List.nil_append, List.getElem?_cons_zero, List.getElem?_cons_succ, R.of_some, R.of_none, R.bind_ok, RS.of_ok, RS.seq_nx, RS.seq_ret, nc0, nc1, nc2, nc3, nc4, nc5, nc6, nc7, nc8, nc9, s_bind, s_map, s_eqI, s_neI, s_eqS, s_neS, atI_0, atI_1, atI_2, atI_3, s_int1, s_int2, s_max, s_mod, s_ix1, s_ix2, s_len1, s_len2, s_list1, s_list2, s_list3, s_tup1, s_tup2, decide_true, decide_false, if_true, if_false, s_ge, s_lt, s_le, s_gt, s_truth, List.set_cons_zero, List.set_cons_succ, s_mul, Bool.or_true, s_add1, s_add3, s_add4, s_sub, s_fdiv, Bool.and_true, Bool.false_eq_true, List.replicate, Nat.reduceAdd, Nat.reduceSub, Int.reduceAdd, Int.reduceSub, Int.reduceMul, fnL, constF, newCell, R.bind_stuck, ck, g5, isNb, Bool.not_true, eq_self]
  have ml : mkLst [D.int 1, .int 2, .int 3, .int 4, .int 6] = some (.lst [D.int 1, .int 2, .int 3, .int 4, .int 6]) := mk _ (by simp)
  have ma : mkLst [D.non, .str "other", .non, .str "other", .non] = some (.lst [D.non, .str "other", .non, .str "other", .non]) := mk _ (by simp)
  have cm : compS fk2 [5] (.one 5) none (.call 7 [.var 5, .var 7, .var 8]) [.imm (.scr ns), .imm (.ref 1), .imm (.lst oddR), s3, .imm W, t5, s6, .imm (.prg hd xs cs), .imm (.lst (rows.map Row.d)), .imm (.int (n : Int)), .imm o] [D.int 1, .int 2, .int 3, .int 4, .int 6] S5 = .ok [.non, .str "other", .non, .str "other", .non] (S5 ++ T6) := by
    unfold compS
    simp only [compLoop, evDef, startE, evSs, evEs, evO, evIf, evSrc, s_it1, s_it2, s_it3, e_lit, e_glob, e_var, e_pk, e_tup, e_lst, e_bin, e_star, e_neg, e_cmp, e_isN, e_chain, e_and, e_or, e_not, e_ite, e_idx, e_slice, e_fld, e_call, e_blt, e_isi, e_join, e_comp, e_dcomp, e_dic0, e_cidx, e_cell, e_cget, e_clen, e_ccat, v_asg, v_asgO, v_unp, v_par, v_setI, v_setK, v_aug, v_app, v_exp, v_ret, v_retO, v_retN, v_ite, v_for_, v_pass, v_never, v_frz, v_cset, immAt, pkAt, MP.setI, ownAt, lstOwn, dicOwn, MP.setO, List.map_cons, List.map_nil, List.length_cons, List.length_nil, List.cons_append, List.nil_append, List.getElem?_cons_zero, List.getElem?_cons_succ, R.of_some, R.of_none, R.bind_ok, RS.of_ok, RS.seq_nx, RS.seq_ret, nc0, nc1, nc2, nc3, nc4, nc5, nc6, nc7, nc8, nc9, s_bind, s_map, s_eqI, s_neI, s_eqS, s_neS, atI_0, atI_1, atI_2, atI_3, s_int1, s_int2, s_max, s_mod, s_ix1, s_ix2, s_len1, s_len2, s_list1, s_list2, s_list3, s_tup1, s_tup2, decide_true, decide_false, if_true, if_false, s_ge, s_lt, s_le, s_gt, s_truth, List.set_cons_zero, List.set_cons_succ, s_mul, Bool.or_true, s_add1, s_add3, s_add4, s_sub, s_fdiv, Bool.and_true, Bool.false_eq_true, List.replicate, Nat.reduceAdd, Nat.reduceSub, Int.reduceAdd, Int.reduceSub, Int.reduceMul, fnL, constF, newCell, R.bind_stuck, bindTg, wipeE, g1, g2, g3, g4, g6, R.nox_ok]
  have v6 : evS fk2 [.imm (.scr ns), .imm (.ref 1), .imm (.lst oddR), s3, .imm W, t5, s6, .imm (.prg hd xs cs), .imm (.lst (rows.map Row.d)), .imm (.int (n : Int)), .imm o] (.asg 6 (.comp [5] (.one 5) (.val (.lst [.lit (.int 1), .lit (.int 2), .lit (.int 3), .lit (.int 4), .lit (.int 6)])) none (.call 7 [.var 5, .var 7, .var 8]))) S5 =
      .nx [.imm (.scr ns), .imm (.ref 1), .imm (.lst oddR), s3, .imm W, t5, .imm (.lst [.non, .str "other", .non, .str "other", .non]), .imm (.prg hd xs cs), .imm (.lst (rows.map Row.d)), .imm (.int (n : Int)), .imm o] (S5 ++ T6) := by
    simp only [evDef, startE, evSs, evEs, evO, evIf, evSrc, s_it1, s_it2, s_it3, e_lit, e_glob, e_var, e_pk, e_tup, e_lst, e_bin, e_star, e_neg, e_cmp, e_isN, e_chain, e_and, e_or, e_not, e_ite, e_idx, e_slice, e_fld, e_call, e_blt, e_isi, e_join, e_comp, e_dcomp, e_dic0, e_cidx, e_cell, e_cget, e_clen, e_ccat, v_asg, v_asgO, v_unp, v_par, v_setI, v_setK, v_aug, v_app, v_exp, v_ret, v_retO, v_retN, v_ite, v_for_, v_pass, v_never, v_frz, v_cset, immAt, pkAt, MP.setI, ownAt, lstOwn, dicOwn, MP.setO, List.map_cons, List.map_nil, List.length_cons, List.length_nil, List.cons_append, List.nil_append, List.getElem?_cons_zero, List.getElem?_cons_succ, R.of_some, R.of_none, R.bind_ok, RS.of_ok, RS.seq_nx, RS.seq_ret, nc0, nc1, nc2, nc3, nc4, nc5, nc6, nc7, nc8, nc9, s_bind, s_map, s_eqI, s_neI, s_eqS, s_neS, atI_0, atI_1, atI_2, atI_3, s_int1, s_int2, s_max, s_mod, s_ix1, s_ix2, s_len1, s_len2, s_list1, s_list2, s_list3, s_tup1, s_tup2, decide_true, decide_false, if_true, if_false, s_ge, s_lt, s_le, s_gt, s_truth, List.set_cons_zero, List.set_cons_succ, s_mul, Bool.or_true, s_add1, s_add3, s_add4, s_sub, s_fdiv, Bool.and_true, Bool.false_eq_true, List.replicate, Nat.reduceAdd, Nat.reduceSub, Int.reduceAdd, Int.reduceSub, Int.reduceMul, fnL, constF, newCell, R.bind_stuck, ml, ma, cm]
  have v7 : evS fk2 [.imm (.scr ns), .imm (.ref 1), .imm (.lst oddR), s3, .imm W, t5, .imm (.lst [.non, .str "other", .non, .str "other", .non]), .imm (.prg hd xs cs), .imm (.lst (rows.map Row.d)), .imm (.int (n : Int)), .imm o] (.ite (.cmp .ne (.var 6) (.lst [.lit (.non), .lit (.str "other"), .lit (.non), .lit (.str "other"), .lit (.non)])) [.ret (.lit (.bl false))] []) (S5 ++ T6) =
      .nx [.imm (.scr ns), .imm (.ref 1), .imm (.lst oddR), s3, .imm W, t5, .imm (.lst [.non, .str "other", .non, .str "other", .non]), .imm (.prg hd xs cs), .imm (.lst (rows.map Row.d)), .imm (.int (n : Int)), .imm o] (S5 ++ T6) := by
    simp only [evDef, startE, evSs, evEs, evO, evIf, evSrc, s_it1, s_it2, s_it3, e_lit, e_glob, e_var, e_pk, e_tup, e_lst, e_bin, e_star, e_neg, e_cmp, e_isN, e_chain, e_and, e_or, e_not, e_ite, e_idx, e_slice, e_fld, e_call, e_blt, e_isi, e_join, e_comp, e_dcomp, e_dic0, e_cidx, e_cell, e_cget, e_clen, e_ccat, v_asg, v_asgO, v_unp, v_par, v_setI, v_setK, v_aug, v_app, v_exp, v_ret, v_retO, v_retN, v_ite, v_for_, v_pass, v_never, v_frz, v_cset, immAt, pkAt, MP.setI, ownAt, lstOwn, dicOwn, MP.setO, List.map_cons, List.map_nil, List.length_cons, List.length_nil, List.cons_append, List.nil_append, List.getElem?_cons_zero, List.getElem?_cons_succ, R.of_some, R.of_none, R.bind_ok, RS.of_ok, RS.seq_nx, RS.seq_ret, nc0, nc1, nc2, nc3, nc4, nc5, nc6, nc7, nc8, nc9, s_bind, s_map, s_eqI, s_neI, s_eqS, s_neS, atI_0, atI_1, atI_2, atI_3, s_int1, s_int2, s_max, s_mod, s_ix1, s_ix2, s_len1, s_len2, s_list1, s_list2, s_list3, s_tup1, s_tup2, decide_true, decide_false, if_true, if_false, s_ge, s_lt, s_le, s_gt, s_truth, List.set_cons_zero, List.set_cons_succ, s_mul, Bool.or_true, s_add1, s_add3, s_add4, s_sub, s_fdiv, Bool.and_true, Bool.false_eq_true, List.replicate, Nat.reduceAdd, Nat.reduceSub, Int.reduceAdd, Int.reduceSub, Int.reduceMul, fnL, constF, newCell, R.bind_stuck, ma, ne_ans]
  refine ⟨.imm W, t5, .imm (D.lst [D.non, .str "other", .non, .str "other", .non]), .imm (.prg hd xs cs), .imm (.lst (rows.map Row.d)), .imm (.int (n : Int)), .imm o, _, _, h5.app T6, ?_⟩
  unfold bTurn
  rw [evSs, v1, RS.seq_nx, evSs, v2, RS.seq_nx, evSs, v3, RS.seq_nx, evSs, v4, RS.seq_nx, evSs, v5, RS.seq_nx, evSs, v6, RS.seq_nx, evSs, v7, RS.seq_nx, evSs]
theorem turns_ok {ns : List Int} : ∀ {ds : List D} {s3 s4 s5 s6 s7 s8 s9 s10 : MP.Slot} {T S : Sto}, HSt T S → ∃ t3 t4 t5 t6 t7 t8 t9 t10 S',
    forS fk2 (.one 3) bTurn ds [.imm (.scr ns), .imm (.ref 1), .imm (.lst oddR), s3, s4, s5, s6, s7, s8, s9, s10] S = .nx [.imm (.scr ns), .imm (.ref 1), .imm (.lst oddR), t3, t4, t5, t6, t7, t8, t9, t10] S'
  | [], s3, s4, s5, s6, s7, s8, s9, s10, T, S, _ => ⟨s3, s4, s5, s6, s7, s8, s9, s10, S, rfl⟩
  | d :: ds, s3, s4, s5, s6, s7, s8, s9, s10, T, S, hs => by
    obtain ⟨u4, u5, u6, u7, u8, u9, u10, T1, S1, h1, e1⟩ := turn_ok (ns := ns) (s3 := .imm d) (s4 := s4) (s5 := s5) (s6 := s6) (s7 := s7) (s8 := s8) (s9 := s9) (s10 := s10) hs
    obtain ⟨t3, t4, t5, t6, t7, t8, t9, t10, S2, e2⟩ := turns_ok (ns := ns) (ds := ds) (s3 := .imm d) (s4 := u4) (s5 := u5) (s6 := u6) (s7 := u7) (s8 := u8) (s9 := u9) (s10 := u10) h1
    refine ⟨t3, t4, t5, t6, t7, t8, t9, t10, S2, ?_⟩
    rw [← e2]
    exact forS_step rfl e1
theorem law_true_k02 (ns : List Int) (h : ns.length ≤ 63) : ∃ S, F_law_k02 [.scr ns] [] = .ok (.bl true) S := by
  obtain ⟨_, S0, e0, rfl, hs0⟩ := mix_ok (seed := 2) h
  have er : dRng [.int 4] = some (rngItems 0 4) := rfl
  obtain ⟨t3, t4, t5, t6, t7, t8, t9, t10, S1, el⟩ := turns_ok (ns := ns) (ds := rngItems 0 4) (s3 := .no) (s4 := .no) (s5 := .no) (s6 := .no) (s7 := .no) (s8 := .no) (s9 := .no) (s10 := .no) hs0
  have v1 : evS fk2 [.imm (.scr ns), .no, .no, .no, .no, .no, .no, .no, .no, .no, .no] (.asg 1 (.call 0 [.var 0, .lit (.int 2)])) [] = .nx [.imm (.scr ns), .imm (.ref 1), .no, .no, .no, .no, .no, .no, .no, .no, .no] S0 := by
    simp only [evDef, startE, evSs, evEs, evO, evIf, evSrc, s_it1, s_it2, s_it3, e_lit, e_glob, e_var, e_pk, e_tup, e_lst, e_bin, e_star, e_neg, e_cmp, e_isN, e_chain, e_and, e_or, e_not, e_ite, e_idx, e_slice, e_fld, e_call, e_blt, e_isi, e_join, e_comp, e_dcomp, e_dic0, e_cidx, e_cell, e_cget, e_clen, e_ccat, v_asg, v_asgO, v_unp, v_par, v_setI, v_setK, v_aug, v_app, v_exp, v_ret, v_retO, v_retN, v_ite, v_for_, v_pass, v_never, v_frz, v_cset, immAt, pkAt, MP.setI, ownAt, lstOwn, dicOwn, MP.setO, List.map_cons, List.map_nil, List.length_cons, List.length_nil, List.cons_append, List.nil_append, List.getElem?_cons_zero, List.getElem?_cons_succ, R.of_some, R.of_none, R.bind_ok, RS.of_ok, RS.seq_nx, RS.seq_ret, nc0, nc1, nc2, nc3, nc4, nc5, nc6, nc7, nc8, nc9, s_bind, s_map, s_eqI, s_neI, s_eqS, s_neS, atI_0, atI_1, atI_2, atI_3, s_int1, s_int2, s_max, s_mod, s_ix1, s_ix2, s_len1, s_len2, s_list1, s_list2, s_list3, s_tup1, s_tup2, decide_true, decide_false, if_true, if_false, s_ge, s_lt, s_le, s_gt, s_truth, List.set_cons_zero, List.set_cons_succ, s_mul, Bool.or_true, s_add1, s_add3, s_add4, s_sub, s_fdiv, Bool.and_true, Bool.false_eq_true, List.replicate, Nat.reduceAdd, Nat.reduceSub, Int.reduceAdd, Int.reduceSub, Int.reduceMul, fnL, constF, newCell, R.bind_stuck, e0]
  have v2 : ∀ rest, evSs fk2 [.imm (.scr ns), .imm (.ref 1), .no, .no, .no, .no, .no, .no, .no, .no, .no] (bOdd ++ rest) S0 = evSs fk2 [.imm (.scr ns), .imm (.ref 1), .imm (.lst oddR), .no, .no, .no, .no, .no, .no, .no, .no] rest S0 := fun rest => by
    rw [evSs_append, odd_made, RS.seq_nx]
  have v3 : evSs fk2 [.imm (.scr ns), .imm (.ref 1), .imm (.lst oddR), .no, .no, .no, .no, .no, .no, .no, .no] [.for_ (.one 3) (.rng [.lit (.int 4)]) bTurn, .ret (.lit (.bl true))] S0 = .ret (.bl true) S1 := by
    simp only [evDef, startE, evSs, evEs, evO, evIf, evSrc, s_it1, s_it2, s_it3, e_lit, e_glob, e_var, e_pk, e_tup, e_lst, e_bin, e_star, e_neg, e_cmp, e_isN, e_chain, e_and, e_or, e_not, e_ite, e_idx, e_slice, e_fld, e_call, e_blt, e_isi, e_join, e_comp, e_dcomp, e_dic0, e_cidx, e_cell, e_cget, e_clen, e_ccat, v_asg, v_asgO, v_unp, v_par, v_setI, v_setK, v_aug, v_app, v_exp, v_ret, v_retO, v_retN, v_ite, v_for_, v_pass, v_never, v_frz, v_cset, immAt, pkAt, MP.setI, ownAt, lstOwn, dicOwn, MP.setO, List.map_cons, List.map_nil, List.length_cons, List.length_nil, List.cons_append, List.nil_append, List.getElem?_cons_zero, List.getElem?_cons_succ, R.of_some, R.of_none, R.bind_ok, RS.of_ok, RS.seq_nx, RS.seq_ret, nc0, nc1, nc2, nc3, nc4, nc5, nc6, nc7, nc8, nc9, s_bind, s_map, s_eqI, s_neI, s_eqS, s_neS, atI_0, atI_1, atI_2, atI_3, s_int1, s_int2, s_max, s_mod, s_ix1, s_ix2, s_len1, s_len2, s_list1, s_list2, s_list3, s_tup1, s_tup2, decide_true, decide_false, if_true, if_false, s_ge, s_lt, s_le, s_gt, s_truth, List.set_cons_zero, List.set_cons_succ, s_mul, Bool.or_true, s_add1, s_add3, s_add4, s_sub, s_fdiv, Bool.and_true, Bool.false_eq_true, List.replicate, Nat.reduceAdd, Nat.reduceSub, Int.reduceAdd, Int.reduceSub, Int.reduceMul, fnL, constF, newCell, R.bind_stuck, er, el]
  have run : evSs fk2 [.imm (.scr ns), .no, .no, .no, .no, .no, .no, .no, .no, .no, .no] (.asg 1 (.call 0 [.var 0, .lit (.int 2)]) :: (bOdd ++ [.for_ (.one 3) (.rng [.lit (.int 4)]) bTurn, .ret (.lit (.bl true))])) [] = .ret (.bl true) S1 := by
    rw [evSs, v1, RS.seq_nx, v2, v3]
  refine ⟨S1, ?_⟩
  have e : F_law_k02 [.scr ns] [] = evDef fk2 11 (.asg 1 (.call 0 [.var 0, .lit (.int 2)]) :: (bOdd ++ [.for_ (.one 3) (.rng [.lit (.int 4)]) bTurn, .ret (.lit (.bl true))])) [.scr ns] [] := rfl
  have e' : startE 11 [D.scr ns] = [.imm (.scr ns), .no, .no, .no, .no, .no, .no, .no, .no, .no, .no] := rfl
  rw [e]
  unfold evDef
  rw [e', run]
end PG

namespace Gk02
open PySem PySem.Spec PyProof.Rows L2 MP PG
def top (i : Nat) : Stmt := PySem.Challenge.pw_keptback_k02_tables_refused.main.body.getD i (.Pass ⟨0, 0, 0, 0⟩)
def xc : List (Str × Nat) := [("RowError", 0), ("BadRow", 1), ("BadHeld", 2), ("BadStep", 3), ("BadTold", 4), ("BadIndex", 5)]
def tk : List (Str × List Str) := [("COLUMNS", ["x", "y"])]
/-! _law_mix -/
abbrev s_law_mix : Stmt := top 51
theorem c_law_mix : chkSs (gmOf N_law_mix (defScope s_law_mix) i_law_mix tk xc) (lvOf false) b_law_mix (defBody s_law_mix) = true := by decide +kernel
theorem sc_law_mix : FnScope N_law_mix ["_law_script", "_law_seed"] (defScope s_law_mix) := ⟨rfl, rfl, rfl, by decide +kernel, rfl, by decide +kernel, by decide +kernel⟩
def d_law_mix : He.DefD := ⟨("_law_mix", none), "_law_mix", "_law_mix", defArgs s_law_mix, defBody s_law_mix, defScope s_law_mix, [], []⟩
/-! check_held -/
abbrev s_check_held : Stmt := top 29
theorem c_check_held : chkSs (gmOf N_check_held (defScope s_check_held) i_check_held tk xc) (lvOf true) b_check_held (defBody s_check_held) = true := by decide +kernel
theorem sc_check_held : FnScope N_check_held ["held"] (defScope s_check_held) := ⟨rfl, rfl, rfl, by decide +kernel, rfl, by decide +kernel, by decide +kernel⟩
def d_check_held : He.DefD := ⟨("check_held", none), "check_held", "check_held", defArgs s_check_held, defBody s_check_held, defScope s_check_held, [], []⟩
/-! is_word -/
abbrev s_is_word : Stmt := top 26
theorem c_is_word : chkSs (gmOf N_is_word (defScope s_is_word) i_is_word tk xc) (lvOf true) b_is_word (defBody s_is_word) = true := by decide +kernel
theorem sc_is_word : FnScope N_is_word ["thing", "words"] (defScope s_is_word) := ⟨rfl, rfl, rfl, by decide +kernel, rfl, by decide +kernel, by decide +kernel⟩
def d_is_word : He.DefD := ⟨("is_word", none), "is_word", "is_word", defArgs s_is_word, defBody s_is_word, defScope s_is_word, [], []⟩
/-! is_integer -/
abbrev s_is_integer : Stmt := top 11
theorem c_is_integer : chkSs (gmOf N_is_integer (defScope s_is_integer) i_is_integer tk xc) (lvOf true) b_is_integer (defBody s_is_integer) = true := by decide +kernel
theorem sc_is_integer : FnScope N_is_integer ["thing", "least", "most"] (defScope s_is_integer) := ⟨rfl, rfl, rfl, by decide +kernel, rfl, by decide +kernel, by decide +kernel⟩
def d_is_integer : He.DefD := ⟨("is_integer", none), "is_integer", "is_integer", defArgs s_is_integer, defBody s_is_integer, defScope s_is_integer, [], []⟩
/-! is_worth -/
abbrev s_is_worth : Stmt := top 27
theorem c_is_worth : chkSs (gmOf N_is_worth (defScope s_is_worth) i_is_worth tk xc) (lvOf true) b_is_worth (defBody s_is_worth) = true := by decide +kernel
theorem sc_is_worth : FnScope N_is_worth ["thing"] (defScope s_is_worth) := ⟨rfl, rfl, rfl, by decide +kernel, rfl, by decide +kernel, by decide +kernel⟩
def d_is_worth : He.DefD := ⟨("is_worth", none), "is_worth", "is_worth", defArgs s_is_worth, defBody s_is_worth, defScope s_is_worth, [], []⟩
/-! is_step -/
abbrev s_is_step : Stmt := top 28
theorem c_is_step : chkSs (gmOf N_is_step (defScope s_is_step) i_is_step tk xc) (lvOf true) b_is_step (defBody s_is_step) = true := by decide +kernel
theorem sc_is_step : FnScope N_is_step ["thing"] (defScope s_is_step) := ⟨rfl, rfl, rfl, by decide +kernel, rfl, by decide +kernel, by decide +kernel⟩
def d_is_step : He.DefD := ⟨("is_step", none), "is_step", "is_step", defArgs s_is_step, defBody s_is_step, defScope s_is_step, [], []⟩
/-! check_steps -/
abbrev s_check_steps : Stmt := top 30
theorem c_check_steps : chkSs (gmOf N_check_steps (defScope s_check_steps) i_check_steps tk xc) (lvOf true) b_check_steps (defBody s_check_steps) = true := by decide +kernel
theorem sc_check_steps : FnScope N_check_steps ["steps"] (defScope s_check_steps) := ⟨rfl, rfl, rfl, by decide +kernel, rfl, by decide +kernel, by decide +kernel⟩
def d_check_steps : He.DefD := ⟨("check_steps", none), "check_steps", "check_steps", defArgs s_check_steps, defBody s_check_steps, defScope s_check_steps, [], []⟩
/-! _law_built -/
abbrev s_law_built : Stmt := top 60
theorem c_law_built : chkSs (gmOf N_law_built (defScope s_law_built) i_law_built tk xc) (lvOf false) b_law_built (defBody s_law_built) = true := by decide +kernel
theorem sc_law_built : FnScope N_law_built ["_law_parts_here"] (defScope s_law_built) := ⟨rfl, rfl, rfl, by decide +kernel, rfl, by decide +kernel, by decide +kernel⟩
def d_law_built : He.DefD := ⟨("_law_built", none), "_law_built", "_law_built", defArgs s_law_built, defBody s_law_built, defScope s_law_built, [], []⟩
/-! _law_next -/
abbrev s_law_next : Stmt := top 52
theorem c_law_next : chkSs (gmOf N_law_next (defScope s_law_next) i_law_next tk xc) (lvOf true) b_law_next (defBody s_law_next) = true := by decide +kernel
theorem sc_law_next : FnScope N_law_next ["_law_h", "_law_cap"] (defScope s_law_next) := ⟨rfl, rfl, rfl, by decide +kernel, rfl, by decide +kernel, by decide +kernel⟩
def d_law_next : He.DefD := ⟨("_law_next", none), "_law_next", "_law_next", defArgs s_law_next, defBody s_law_next, defScope s_law_next, [], []⟩
/-! _law_pick -/
abbrev s_law_pick : Stmt := top 54
theorem c_law_pick : chkSs (gmOf N_law_pick (defScope s_law_pick) i_law_pick tk xc) (lvOf false) b_law_pick (defBody s_law_pick) = true := by decide +kernel
theorem sc_law_pick : FnScope N_law_pick ["_law_h", "_law_things"] (defScope s_law_pick) := ⟨rfl, rfl, rfl, by decide +kernel, rfl, by decide +kernel, by decide +kernel⟩
def d_law_pick : He.DefD := ⟨("_law_pick", none), "_law_pick", "_law_pick", defArgs s_law_pick, defBody s_law_pick, defScope s_law_pick, [], []⟩
/-! _law_worth -/
abbrev s_law_worth : Stmt := top 55
theorem c_law_worth : chkSs (gmOf N_law_worth (defScope s_law_worth) i_law_worth tk xc) (lvOf false) b_law_worth (defBody s_law_worth) = true := by decide +kernel
theorem sc_law_worth : FnScope N_law_worth ["_law_h"] (defScope s_law_worth) := ⟨rfl, rfl, rfl, by decide +kernel, rfl, by decide +kernel, by decide +kernel⟩
def d_law_worth : He.DefD := ⟨("_law_worth", none), "_law_worth", "_law_worth", defArgs s_law_worth, defBody s_law_worth, defScope s_law_worth, [], []⟩
/-! _law_steps -/
abbrev s_law_steps : Stmt := top 56
theorem c_law_steps : chkSs (gmOf N_law_steps (defScope s_law_steps) i_law_steps tk xc) (lvOf true) b_law_steps (defBody s_law_steps) = true := by decide +kernel
theorem sc_law_steps : FnScope N_law_steps ["_law_h", "_law_most"] (defScope s_law_steps) := ⟨rfl, rfl, rfl, by decide +kernel, rfl, by decide +kernel, by decide +kernel⟩
def d_law_steps : He.DefD := ⟨("_law_steps", none), "_law_steps", "_law_steps", defArgs s_law_steps, defBody s_law_steps, defScope s_law_steps, [], []⟩
/-! _law_parts -/
abbrev s_law_parts : Stmt := top 57
theorem c_law_parts : chkSs (gmOf N_law_parts (defScope s_law_parts) i_law_parts tk xc) (lvOf true) b_law_parts (defBody s_law_parts) = true := by decide +kernel
theorem sc_law_parts : FnScope N_law_parts ["_law_h", "_law_most"] (defScope s_law_parts) := ⟨rfl, rfl, rfl, by decide +kernel, rfl, by decide +kernel, by decide +kernel⟩
def d_law_parts : He.DefD := ⟨("_law_parts", none), "_law_parts", "_law_parts", defArgs s_law_parts, defBody s_law_parts, defScope s_law_parts, [], []⟩
/-! _law_entry -/
abbrev s_law_entry : Stmt := top 58
theorem c_law_entry : chkSs (gmOf N_law_entry (defScope s_law_entry) i_law_entry tk xc) (lvOf false) b_law_entry (defBody s_law_entry) = true := by decide +kernel
theorem sc_law_entry : FnScope N_law_entry ["_law_h"] (defScope s_law_entry) := ⟨rfl, rfl, rfl, by decide +kernel, rfl, by decide +kernel, by decide +kernel⟩
def d_law_entry : He.DefD := ⟨("_law_entry", none), "_law_entry", "_law_entry", defArgs s_law_entry, defBody s_law_entry, defScope s_law_entry, [], []⟩
/-! _law_table -/
abbrev s_law_table : Stmt := top 59
theorem c_law_table : chkSs (gmOf N_law_table (defScope s_law_table) i_law_table tk xc) (lvOf true) b_law_table (defBody s_law_table) = true := by decide +kernel
theorem sc_law_table : FnScope N_law_table ["_law_h", "_law_most"] (defScope s_law_table) := ⟨rfl, rfl, rfl, by decide +kernel, rfl, by decide +kernel, by decide +kernel⟩
def d_law_table : He.DefD := ⟨("_law_table", none), "_law_table", "_law_table", defArgs s_law_table, defBody s_law_table, defScope s_law_table, [], []⟩
/-! _law_alike -/
abbrev s_law_alike : Stmt := top 53
theorem c_law_alike : chkSs (gmOf N_law_alike (defScope s_law_alike) i_law_alike tk xc) (lvOf false) b_law_alike (defBody s_law_alike) = true := by decide +kernel
theorem sc_law_alike : FnScope N_law_alike ["_law_found", "_law_due"] (defScope s_law_alike) := ⟨rfl, rfl, rfl, by decide +kernel, rfl, by decide +kernel, by decide +kernel⟩
def d_law_alike : He.DefD := ⟨("_law_alike", none), "_law_alike", "_law_alike", defArgs s_law_alike, defBody s_law_alike, defScope s_law_alike, [], []⟩
/-! is_mark -/
abbrev s_is_mark : Stmt := top 12
theorem c_is_mark : chkSs (gmOf N_is_mark (defScope s_is_mark) i_is_mark tk xc) (lvOf true) b_is_mark (defBody s_is_mark) = true := by decide +kernel
theorem sc_is_mark : FnScope N_is_mark ["thing"] (defScope s_is_mark) := ⟨rfl, rfl, rfl, by decide +kernel, rfl, by decide +kernel, by decide +kernel⟩
def d_is_mark : He.DefD := ⟨("is_mark", none), "is_mark", "is_mark", defArgs s_is_mark, defBody s_is_mark, defScope s_is_mark, [], []⟩
/-! is_row -/
abbrev s_is_row : Stmt := top 13
theorem c_is_row : chkSs (gmOf N_is_row (defScope s_is_row) i_is_row tk xc) (lvOf true) b_is_row (defBody s_is_row) = true := by decide +kernel
theorem sc_is_row : FnScope N_is_row ["thing"] (defScope s_is_row) := ⟨rfl, rfl, rfl, by decide +kernel, rfl, by decide +kernel, by decide +kernel⟩
def d_is_row : He.DefD := ⟨("is_row", none), "is_row", "is_row", defArgs s_is_row, defBody s_is_row, defScope s_is_row, [], []⟩
/-! check_table -/
abbrev s_check_table : Stmt := top 14
theorem c_check_table : chkSs (gmOf N_check_table (defScope s_check_table) i_check_table tk xc) (lvOf true) b_check_table (defBody s_check_table) = true := by decide +kernel
theorem sc_check_table : FnScope N_check_table ["table"] (defScope s_check_table) := ⟨rfl, rfl, rfl, by decide +kernel, rfl, by decide +kernel, by decide +kernel⟩
def d_check_table : He.DefD := ⟨("check_table", none), "check_table", "check_table", defArgs s_check_table, defBody s_check_table, defScope s_check_table, [], []⟩
/-! marks_in -/
abbrev s_marks_in : Stmt := top 32
theorem c_marks_in : chkSs (gmOf N_marks_in (defScope s_marks_in) i_marks_in tk xc) (lvOf true) b_marks_in (defBody s_marks_in) = true := by decide +kernel
theorem sc_marks_in : FnScope N_marks_in ["program", "mark", "scope", "behind"] (defScope s_marks_in) := ⟨rfl, rfl, rfl, by decide +kernel, rfl, by decide +kernel, by decide +kernel⟩
def d_marks_in : He.DefD := ⟨("marks_in", none), "marks_in", "marks_in", defArgs s_marks_in, defBody s_marks_in, defScope s_marks_in, [], []⟩
/-! entry_of -/
abbrev s_entry_of : Stmt := top 15
theorem c_entry_of : chkSs (gmOf N_entry_of (defScope s_entry_of) i_entry_of tk xc) (lvOf false) b_entry_of (defBody s_entry_of) = true := by decide +kernel
theorem sc_entry_of : FnScope N_entry_of ["row", "column"] (defScope s_entry_of) := ⟨rfl, rfl, rfl, by decide +kernel, rfl, by decide +kernel, by decide +kernel⟩
def d_entry_of : He.DefD := ⟨("entry_of", none), "entry_of", "entry_of", defArgs s_entry_of, defBody s_entry_of, defScope s_entry_of, [], []⟩
/-! worth_for -/
abbrev s_worth_for : Stmt := top 34
theorem c_worth_for : chkSs (gmOf N_worth_for (defScope s_worth_for) i_worth_for tk xc) (lvOf false) b_worth_for (defBody s_worth_for) = true := by decide +kernel
theorem sc_worth_for : FnScope N_worth_for ["program", "worth", "mark", "table"] (defScope s_worth_for) := ⟨rfl, rfl, rfl, by decide +kernel, rfl, by decide +kernel, by decide +kernel⟩
def d_worth_for : He.DefD := ⟨("worth_for", none), "worth_for", "worth_for", defArgs s_worth_for, defBody s_worth_for, defScope s_worth_for, [], []⟩
/-! with_entry -/
abbrev s_with_entry : Stmt := top 16
theorem c_with_entry : chkSs (gmOf N_with_entry (defScope s_with_entry) i_with_entry tk xc) (lvOf true) b_with_entry (defBody s_with_entry) = true := by decide +kernel
theorem sc_with_entry : FnScope N_with_entry ["row", "column", "entry"] (defScope s_with_entry) := ⟨rfl, rfl, rfl, by decide +kernel, rfl, by decide +kernel, by decide +kernel⟩
def d_with_entry : He.DefD := ⟨("with_entry", none), "with_entry", "with_entry", defArgs s_with_entry, defBody s_with_entry, defScope s_with_entry, [], []⟩
/-! changed_entry -/
abbrev s_changed_entry : Stmt := top 35
theorem c_changed_entry : chkSs (gmOf N_changed_entry (defScope s_changed_entry) i_changed_entry tk xc) (lvOf false) b_changed_entry (defBody s_changed_entry) = true := by decide +kernel
theorem sc_changed_entry : FnScope N_changed_entry ["step", "row", "worths"] (defScope s_changed_entry) := ⟨rfl, rfl, rfl, by decide +kernel, rfl, by decide +kernel, by decide +kernel⟩
def d_changed_entry : He.DefD := ⟨("changed_entry", none), "changed_entry", "changed_entry", defArgs s_changed_entry, defBody s_changed_entry, defScope s_changed_entry, [], []⟩
/-! stepped -/
abbrev s_stepped : Stmt := top 36
theorem c_stepped : chkSs (gmOf N_stepped (defScope s_stepped) i_stepped tk xc) (lvOf true) b_stepped (defBody s_stepped) = true := by decide +kernel
theorem sc_stepped : FnScope N_stepped ["program", "table", "many"] (defScope s_stepped) := ⟨rfl, rfl, rfl, by decide +kernel, rfl, by decide +kernel, by decide +kernel⟩
def d_stepped : He.DefD := ⟨("stepped", none), "stepped", "stepped", defArgs s_stepped, defBody s_stepped, defScope s_stepped, [], []⟩
/-! done -/
abbrev s_done : Stmt := top 37
theorem c_done : chkSs (gmOf N_done (defScope s_done) i_done tk xc) (lvOf true) b_done (defBody s_done) = true := by decide +kernel
theorem sc_done : FnScope N_done ["program", "table"] (defScope s_done) := ⟨rfl, rfl, rfl, by decide +kernel, rfl, by decide +kernel, by decide +kernel⟩
def d_done : He.DefD := ⟨("done", none), "done", "done", defArgs s_done, defBody s_done, defScope s_done, [], []⟩
/-! done_by -/
abbrev s_done_by : Stmt := top 38
theorem c_done_by : chkSs (gmOf N_done_by (defScope s_done_by) i_done_by tk xc) (lvOf true) b_done_by (defBody s_done_by) = true := by decide +kernel
theorem sc_done_by : FnScope N_done_by ["program", "table", "many"] (defScope s_done_by) := ⟨rfl, rfl, rfl, by decide +kernel, rfl, by decide +kernel, by decide +kernel⟩
def d_done_by : He.DefD := ⟨("done_by", none), "done_by", "done_by", defArgs s_done_by, defBody s_done_by, defScope s_done_by, [], []⟩
/-! told_of -/
abbrev s_told_of : Stmt := top 39
theorem c_told_of : chkSs (gmOf N_told_of (defScope s_told_of) i_told_of tk xc) (lvOf true) b_told_of (defBody s_told_of) = true := by decide +kernel
theorem sc_told_of : FnScope N_told_of ["program", "table"] (defScope s_told_of) := ⟨rfl, rfl, rfl, by decide +kernel, rfl, by decide +kernel, by decide +kernel⟩
def d_told_of : He.DefD := ⟨("told_of", none), "told_of", "told_of", defArgs s_told_of, defBody s_told_of, defScope s_told_of, [], []⟩
/-! told -/
abbrev s_told : Stmt := top 40
theorem c_told : chkSs (gmOf N_told (defScope s_told) i_told tk xc) (lvOf true) b_told (defBody s_told) = true := by decide +kernel
theorem sc_told : FnScope N_told ["program", "table"] (defScope s_told) := ⟨rfl, rfl, rfl, by decide +kernel, rfl, by decide +kernel, by decide +kernel⟩
def d_told : He.DefD := ⟨("told", none), "told", "told", defArgs s_told, defBody s_told, defScope s_told, [], []⟩
/-! kind_of -/
abbrev s_kind_of : Stmt := top 17
theorem c_kind_of : chkSs (gmOf N_kind_of (defScope s_kind_of) i_kind_of tk xc) (lvOf true) b_kind_of (defBody s_kind_of) = true := by decide +kernel
theorem sc_kind_of : FnScope N_kind_of ["row"] (defScope s_kind_of) := ⟨rfl, rfl, rfl, by decide +kernel, rfl, by decide +kernel, by decide +kernel⟩
def d_kind_of : He.DefD := ⟨("kind_of", none), "kind_of", "kind_of", defArgs s_kind_of, defBody s_kind_of, defScope s_kind_of, [], []⟩
/-! variable_in -/
abbrev s_variable_in : Stmt := top 46
theorem c_variable_in : chkSs (gmOf N_variable_in (defScope s_variable_in) i_variable_in tk xc) (lvOf false) b_variable_in (defBody s_variable_in) = true := by decide +kernel
theorem sc_variable_in : FnScope N_variable_in ["name", "table", "index"] (defScope s_variable_in) := ⟨rfl, rfl, rfl, by decide +kernel, rfl, by decide +kernel, by decide +kernel⟩
def d_variable_in : He.DefD := ⟨("variable_in", none), "variable_in", "variable_in", defArgs s_variable_in, defBody s_variable_in, defScope s_variable_in, [], []⟩
/-! worth_of -/
abbrev s_worth_of : Stmt := top 47
theorem c_worth_of : chkSs (gmOf N_worth_of (defScope s_worth_of) i_worth_of tk xc) (lvOf false) b_worth_of (defBody s_worth_of) = true := by decide +kernel
theorem sc_worth_of : FnScope N_worth_of ["formula", "table", "index"] (defScope s_worth_of) := ⟨rfl, rfl, rfl, by decide +kernel, rfl, by decide +kernel, by decide +kernel⟩
def d_worth_of : He.DefD := ⟨("worth_of", none), "worth_of", "worth_of", defArgs s_worth_of, defBody s_worth_of, defScope s_worth_of, [], []⟩
/-! is_leak -/
abbrev s_is_leak : Stmt := top 49
theorem c_is_leak : chkSs (gmOf N_is_leak (defScope s_is_leak) i_is_leak tk xc) (lvOf true) b_is_leak (defBody s_is_leak) = true := by decide +kernel
theorem sc_is_leak : FnScope N_is_leak ["program", "one", "other"] (defScope s_is_leak) := ⟨rfl, rfl, rfl, by decide +kernel, rfl, by decide +kernel, by decide +kernel⟩
def d_is_leak : He.DefD := ⟨("is_leak", none), "is_leak", "is_leak", defArgs s_is_leak, defBody s_is_leak, defScope s_is_leak, [], []⟩
/-! Desk_init -/
abbrev s_Desk_init : Stmt := inClass (top 42) 0
theorem c_Desk_init : chkSs (gmOf N_Desk_init (defScope s_Desk_init) i_Desk_init tk xc) (lvOf false) b_Desk_init (defBody s_Desk_init) = true := by decide +kernel
theorem sc_Desk_init : FnScope N_Desk_init ["self", "program", "table"] (defScope s_Desk_init) := ⟨rfl, rfl, rfl, by decide +kernel, rfl, by decide +kernel, by decide +kernel⟩
def d_Desk_init : He.DefD := ⟨("Desk", some "__init__"), "__init__", "Desk.__init__", defArgs s_Desk_init, defBody s_Desk_init, defScope s_Desk_init, [], []⟩
/-! _law_ask -/
abbrev s_law_ask : Stmt := top 61
theorem c_law_ask : chkSs (gmOf N_law_ask (defScope s_law_ask) i_law_ask tk xc) (lvOf false) b_law_ask (defBody s_law_ask) = true := by decide +kernel
theorem sc_law_ask : FnScope N_law_ask ["_law_numeral", "_law_program", "_law_table_here"] (defScope s_law_ask) := ⟨rfl, rfl, rfl, by decide +kernel, rfl, by decide +kernel, by decide +kernel⟩
def d_law_ask : He.DefD := ⟨("_law_ask", none), "_law_ask", "_law_ask", defArgs s_law_ask, defBody s_law_ask, defScope s_law_ask, [], []⟩
/-! _law_refused -/
abbrev s_law_refused : Stmt := top 62
theorem c_law_refused : chkSs (gmOf N_law_refused_3 (defScope s_law_refused) i_law_refused_3 tk xc) (lvOf false) b_law_refused_3 (defBody s_law_refused) = true := by decide +kernel
theorem sc_law_refused : FnScope N_law_refused_3 ["_law_numeral", "_law_program", "_law_table_here"] (defScope s_law_refused) := ⟨rfl, rfl, rfl, by decide +kernel, rfl, by decide +kernel, by decide +kernel⟩
def d_law_refused : He.DefD := ⟨("_law_refused", none), "_law_refused", "_law_refused", defArgs s_law_refused, defBody s_law_refused, defScope s_law_refused, [], []⟩
/-! law -/
abbrev s_law : Stmt := top 63
theorem c_law : chkSs (gmOf N_law_k02 (defScope s_law) i_law_k02 tk xc) (lvOf true) b_law_k02 (defBody s_law) = true := by decide +kernel
theorem sc_law : FnScope N_law_k02 ["_law_script"] (defScope s_law) := ⟨rfl, rfl, rfl, by decide +kernel, rfl, by decide +kernel, by decide +kernel⟩
def d_law : He.DefD := ⟨("law", none), "law", "law", defArgs s_law, defBody s_law, defScope s_law, [], []⟩
abbrev s_ini : Stmt := inClass (top 31) 0
theorem c_ini : chkIni (gmOf N_new_Program (defScope s_ini) i_new_Program tk xc) b_new_Program (defBody s_ini) = true := by decide +kernel
theorem sc_ini : FnScope N_new_Program N_new_Program (defScope s_ini) := ⟨rfl, rfl, rfl, by decide +kernel, rfl, by decide +kernel, by decide +kernel⟩
def d_ini : He.DefD := ⟨("Program", some "__init__"), "__init__", "Program.__init__", defArgs s_ini, defBody s_ini, defScope s_ini, [], []⟩
def fn : List He.DefD := [d_law_mix, d_check_held, d_is_word, d_is_integer, d_is_worth, d_is_step, d_check_steps, d_law_built, d_law_next, d_law_pick, d_law_worth, d_law_steps, d_law_parts, d_law_entry, d_law_table, d_law_alike, d_is_mark, d_is_row, d_check_table, d_marks_in, d_entry_of, d_worth_for, d_with_entry, d_changed_entry, d_stepped, d_done, d_done_by, d_told_of, d_told, d_kind_of, d_variable_in, d_worth_of, d_is_leak, d_Desk_init, d_law_ask, d_law_refused, d_law, d_ini]
def fa : List He.Fa := bltNames.map He.Fa.free ++ ([.free "super", .glo "_law_mix", .glo "check_held", .glo "is_word", .glo "is_integer", .glo "is_worth", .glo "is_step", .glo "check_steps", .glo "_law_built", .glo "_law_next", .glo "_law_pick", .glo "_law_worth", .glo "_law_steps", .glo "_law_parts", .glo "_law_entry", .glo "_law_table", .glo "_law_alike", .glo "is_mark", .glo "is_row", .glo "check_table", .glo "marks_in", .glo "entry_of", .glo "worth_for", .glo "with_entry", .glo "changed_entry", .glo "stepped", .glo "done", .glo "done_by", .glo "told_of", .glo "told", .glo "kind_of", .glo "variable_in", .glo "worth_of", .glo "is_leak", .glo "_law_ask", .glo "_law_refused", .glo "law", .glo "RowError", .glo "BadRow", .glo "BadHeld", .glo "BadStep", .glo "BadTold", .glo "BadIndex", .glo "Program", .cls "Program", .noat "Program" "marks", .noat "Program" "rows", .noat "Program" "shown", .mkr "Program", .glo "Desk", .cls "Desk", .mkr "Desk", .noat "Desk" "now", .noat "Desk" "past", .noat "Desk" "future", .noat "Desk" "origin", .noat "Desk" "inner", .glo "AGGREGATES", .glo "COLUMNS", .str "MARKS" "abc", .int "MOST_NUMBER" 9, .int "MOST_STEPS" 5, .int "MOST_TIMES" 1, .str "OWN" "own", .str "ROWS" "rows", .glo "SCOPES", .glo "TOLD", .glo "WORDS"] : List He.Fa)
def fileN : Str := (PySem.Challenge.rw_keptback_k02_tables_refused).prog.main.file
def ex (K : PySem.W.Frag) : Bool := tupKB K "AGGREGATES" ["sum", "count"] && (tupKB K "COLUMNS" ["x", "y"] && (tupKB K "SCOPES" ["all", "same", "ahead"] && (tupKB K "TOLD" ["x", "y", "xy"] && (tupKB K "WORDS" ["fill", "less", "times", "put"] && (xcB K (cxA K) xc && (excB fileN K (cxA K 2) 0 (xfN 2) && (excB fileN K (cxA K 3) 1 (xfN 3) && (excB fileN K (cxA K 1) 1 (xfN 1) && (excB fileN K (cxA K 5) 1 (xfN 5) && (excB fileN K (cxA K 4) 0 (xfN 4) && (propB K (He.ga K "Program") "columns" && (getB K (getAd K (He.ga K "Program") "columns") N_Program_columns i_Program_columns tk xc false b_Program_columns))))))))))))
abbrev Rw : PySem.W.OpenRow := PySem.W.OpenLaw.row PySem.Challenge.rw_keptback_k02_tables_refused
abbrev hk : PySem.W.Hook := hookY 5 fa fn ex
def ob (s : PySem.W.SharedT) : He.AlD × Bool := obsY 5 fa fn ex (HandSHeadRun.getT s)
theorem ob_eq (s : PySem.W.SharedT) : ob s = hk.obs s.abs := obsY_eq (HandSHeadRun.getT_eq s)
def loose : List PySem.Str := (["_wall", "RowError", "BadRow", "BadHeld", "BadStep", "BadTold", "BadIndex", "MARKS", "COLUMNS", "is_integer", "is_mark", "is_row", "check_table", "entry_of", "with_entry", "kind_of", "MOST_STEPS", "MOST_TIMES", "MOST_NUMBER", "WORDS", "AGGREGATES", "SCOPES", "TOLD", "is_word", "is_worth", "is_step", "check_held", "check_steps", "Program", "marks_in"] : List PySem.Str) ++ (["worth_for", "changed_entry", "stepped", "done", "done_by", "told_of", "told", "Desk", "OWN", "ROWS", "variable_in", "worth_of", "is_leak", "_law_mix", "_law_next", "_law_alike", "_law_pick", "_law_worth", "_law_steps", "_law_parts", "_law_entry", "_law_table", "_law_built", "_law_ask", "_law_refused"] : List PySem.Str)
set_option maxHeartbeats 0 in
theorem run (w : World) : HandSHeadRun.RunEq Rw (PySem.W.view Rw.prog [63]) hk ob 6000 loose w := by
  intro os
  kernel_rfl
theorem xc_fa : ∀ p ∈ xc, He.Fa.glo p.1 ∈ fa := by
  intro p hp
  simp only [xc, List.mem_cons, List.mem_nil_iff, or_false] at hp
  rcases hp with rfl | rfl | rfl | rfl | rfl | rfl
  · exact List.mem_of_getElem? (i := 52) rfl
  · exact List.mem_of_getElem? (i := 53) rfl
  · exact List.mem_of_getElem? (i := 54) rfl
  · exact List.mem_of_getElem? (i := 55) rfl
  · exact List.mem_of_getElem? (i := 56) rfl
  · exact List.mem_of_getElem? (i := 57) rfl
section
variable {D : Wd} (X : Fx fa fn ex fileN D)
include X
theorem tu_AGGREGATES : TupK D.C.K D.mg "AGGREGATES" ["sum", "count"] := tupKB_ok (He.ba X.e).1 (X.gl "AGGREGATES" (X.t.fact 72 (f := .glo "AGGREGATES") rfl))
theorem tu_COLUMNS : TupK D.C.K D.mg "COLUMNS" ["x", "y"] := tupKB_ok (He.ba (He.ba X.e).2).1 (X.gl "COLUMNS" (X.t.fact 73 (f := .glo "COLUMNS") rfl))
theorem tu_SCOPES : TupK D.C.K D.mg "SCOPES" ["all", "same", "ahead"] := tupKB_ok (He.ba (He.ba (He.ba X.e).2).2).1 (X.gl "SCOPES" (X.t.fact 80 (f := .glo "SCOPES") rfl))
theorem tu_TOLD : TupK D.C.K D.mg "TOLD" ["x", "y", "xy"] := tupKB_ok (He.ba (He.ba (He.ba (He.ba X.e).2).2).2).1 (X.gl "TOLD" (X.t.fact 81 (f := .glo "TOLD") rfl))
theorem tu_WORDS : TupK D.C.K D.mg "WORDS" ["fill", "less", "times", "put"] := tupKB_ok (He.ba (He.ba (He.ba (He.ba (He.ba X.e).2).2).2).2).1 (X.gl "WORDS" (X.t.fact 82 (f := .glo "WORDS") rfl))
theorem wd : WdOk D tk xc where
  blt := fun x hx => X.fr x (X.t.facts (List.mem_append_left _ (List.mem_map_of_mem hx)))
  tk := fun p hp => by
    simp only [tk, List.mem_cons, List.mem_nil_iff, or_false] at hp
    subst hp
    exact tu_COLUMNS X
  prg := ⟨by rw [X.cP]; exact He.cls_ok (X.t.fact 59 (f := .cls "Program") rfl), fun f => by
    rw [X.cP]
    cases f with
    | marks => exact He.noat_ok (X.t.fact 60 (f := .noat "Program" "marks") rfl)
    | rows => exact He.noat_ok (X.t.fact 61 (f := .noat "Program" "rows") rfl)
    | shown => exact He.noat_ok (X.t.fact 62 (f := .noat "Program" "shown") rfl)⟩
  xc := fx_xc X ((He.ba (He.ba (He.ba (He.ba (He.ba (He.ba X.e).2).2).2).2).2).1) (by decide) (fun p hp => X.gl _ (X.t.facts (xc_fa p hp)))
theorem k_BadHeld {f : FS} : FIK D 2 (.exc "BadHeld" 2 0) f := fx_exc X ((He.ba (He.ba (He.ba (He.ba (He.ba (He.ba (He.ba X.e).2).2).2).2).2).2).1) rfl (X.gl "BadHeld" (X.t.fact 54 (f := .glo "BadHeld") rfl)) (X.fr "super" (X.t.fact 15 (f := .free "super") rfl))
theorem k_BadStep {f : FS} : FIK D 2 (.exc "BadStep" 3 1) f := fx_exc X ((He.ba (He.ba (He.ba (He.ba (He.ba (He.ba (He.ba (He.ba X.e).2).2).2).2).2).2).2).1) rfl (X.gl "BadStep" (X.t.fact 55 (f := .glo "BadStep") rfl)) (X.fr "super" (X.t.fact 15 (f := .free "super") rfl))
theorem k_BadRow {f : FS} : FIK D 2 (.exc "BadRow" 1 1) f := fx_exc X ((He.ba (He.ba (He.ba (He.ba (He.ba (He.ba (He.ba (He.ba (He.ba X.e).2).2).2).2).2).2).2).2).1) rfl (X.gl "BadRow" (X.t.fact 53 (f := .glo "BadRow") rfl)) (X.fr "super" (X.t.fact 15 (f := .free "super") rfl))
theorem k_BadIndex {f : FS} : FIK D 2 (.exc "BadIndex" 5 1) f := fx_exc X ((He.ba (He.ba (He.ba (He.ba (He.ba (He.ba (He.ba (He.ba (He.ba (He.ba X.e).2).2).2).2).2).2).2).2).2).1) rfl (X.gl "BadIndex" (X.t.fact 57 (f := .glo "BadIndex") rfl)) (X.fr "super" (X.t.fact 15 (f := .free "super") rfl))
theorem k_BadTold {f : FS} : FIK D 2 (.exc "BadTold" 4 0) f := fx_exc X ((He.ba (He.ba (He.ba (He.ba (He.ba (He.ba (He.ba (He.ba (He.ba (He.ba (He.ba X.e).2).2).2).2).2).2).2).2).2).2).1) rfl (X.gl "BadTold" (X.t.fact 56 (f := .glo "BadTold") rfl)) (X.fr "super" (X.t.fact 15 (f := .free "super") rfl))
theorem k_hf_now {f : FS} : FIK D 0 (.hf "now") f := ⟨by rw [X.cI]; exact He.cls_ok (X.t.fact 65 (f := .cls "Desk") rfl), by rw [X.cI]; exact He.noat_ok (X.t.fact 67 (f := .noat "Desk" "now") rfl)⟩
theorem k_hf_past {f : FS} : FIK D 0 (.hf "past") f := ⟨by rw [X.cI]; exact He.cls_ok (X.t.fact 65 (f := .cls "Desk") rfl), by rw [X.cI]; exact He.noat_ok (X.t.fact 68 (f := .noat "Desk" "past") rfl)⟩
theorem k_hf_future {f : FS} : FIK D 0 (.hf "future") f := ⟨by rw [X.cI]; exact He.cls_ok (X.t.fact 65 (f := .cls "Desk") rfl), by rw [X.cI]; exact He.noat_ok (X.t.fact 69 (f := .noat "Desk" "future") rfl)⟩
theorem k_hf_origin {f : FS} : FIK D 0 (.hf "origin") f := ⟨by rw [X.cI]; exact He.cls_ok (X.t.fact 65 (f := .cls "Desk") rfl), by rw [X.cI]; exact He.noat_ok (X.t.fact 70 (f := .noat "Desk" "origin") rfl)⟩
theorem k_hf_inner {f : FS} : FIK D 0 (.hf "inner") f := ⟨by rw [X.cI]; exact He.cls_ok (X.t.fact 65 (f := .cls "Desk") rfl), by rw [X.cI]; exact He.noat_ok (X.t.fact 71 (f := .noat "Desk" "inner") rfl)⟩
theorem k_law_mix : FIK D 1 (.fn "_law_mix" 2 false) F_law_mix := by
  obtain ⟨fd, F⟩ := X.t.def_ 0 (d := d_law_mix) rfl
  exact ⟨_, fd, ["_law_script", "_law_seed"], def_ok (k := 0) (wd X) F sc_law_mix (.nil) c_law_mix, X.gl "_law_mix" (X.t.fact 16 (f := .glo "_law_mix") rfl), F.kp, F.bindsN (ps := ["_law_script", "_law_seed"]) fun _ _ _ _ _ _ us hl => match us, hl with | [_, _], _ => rfl⟩
theorem k_check_held : FIK D 3 (.fn "check_held" 1 true) F_check_held := by
  obtain ⟨fd, F⟩ := X.t.def_ 1 (d := d_check_held) rfl
  exact ⟨_, fd, ["held"], def_ok (k := 2) (wd X) F sc_check_held (.cons (j := 0) (str_const (X.str "MARKS" "abc" (X.t.fact 74 (f := .str "MARKS" "abc") rfl)) (by decide +kernel)) (by decide) (.cons (k_BadHeld X) (by decide) (.nil))) c_check_held, X.gl "check_held" (X.t.fact 17 (f := .glo "check_held") rfl), F.kp, F.bindsN (ps := ["held"]) fun _ _ _ _ _ _ us hl => match us, hl with | [_], _ => rfl⟩
theorem k_is_word : FIK D 1 (.fn "is_word" 2 true) F_is_word := by
  obtain ⟨fd, F⟩ := X.t.def_ 2 (d := d_is_word) rfl
  exact ⟨_, fd, ["thing", "words"], def_ok (k := 0) (wd X) F sc_is_word (.nil) c_is_word, X.gl "is_word" (X.t.fact 18 (f := .glo "is_word") rfl), F.kp, F.bindsN (ps := ["thing", "words"]) fun _ _ _ _ _ _ us hl => match us, hl with | [_, _], _ => rfl⟩
theorem k_is_integer : FIK D 1 (.fn "is_integer" 3 true) F_is_integer := by
  obtain ⟨fd, F⟩ := X.t.def_ 3 (d := d_is_integer) rfl
  exact ⟨_, fd, ["thing", "least", "most"], def_ok (k := 0) (wd X) F sc_is_integer (.nil) c_is_integer, X.gl "is_integer" (X.t.fact 19 (f := .glo "is_integer") rfl), F.kp, F.bindsN (ps := ["thing", "least", "most"]) fun _ _ _ _ _ _ us hl => match us, hl with | [_, _, _], _ => rfl⟩
theorem k_is_worth : FIK D 2 (.fn "is_worth" 1 true) F_is_worth := by
  obtain ⟨fd, F⟩ := X.t.def_ 4 (d := d_is_worth) rfl
  exact ⟨_, fd, ["thing"], def_ok (k := 1) (wd X) F sc_is_worth (.cons (k_is_integer X) (by decide) (.cons (j := 0) (int_const (X.int "MOST_NUMBER" 9 (X.t.fact 75 (f := .int "MOST_NUMBER" 9) rfl))) (by decide) (.cons (k_is_word X) (by decide) (.cons (j := 0) (tup_const (tu_AGGREGATES X) (by decide +kernel) (by decide)) (by decide) (.cons (j := 0) (tup_const (tu_COLUMNS X) (by decide +kernel) (by decide)) (by decide) (.cons (j := 0) (tup_const (tu_SCOPES X) (by decide +kernel) (by decide)) (by decide) (.nil))))))) c_is_worth, X.gl "is_worth" (X.t.fact 20 (f := .glo "is_worth") rfl), F.kp, F.bindsN (ps := ["thing"]) fun _ _ _ _ _ _ us hl => match us, hl with | [_], _ => rfl⟩
theorem k_is_step : FIK D 3 (.fn "is_step" 1 true) F_is_step := by
  obtain ⟨fd, F⟩ := X.t.def_ 5 (d := d_is_step) rfl
  exact ⟨_, fd, ["thing"], def_ok (k := 2) (wd X) F sc_is_step (.cons (k_is_word X) (by decide) (.cons (j := 0) (tup_const (tu_COLUMNS X) (by decide +kernel) (by decide)) (by decide) (.cons (j := 0) (tup_const (tu_WORDS X) (by decide +kernel) (by decide)) (by decide) (.cons (k_is_worth X) (by decide) (.nil))))) c_is_step, X.gl "is_step" (X.t.fact 21 (f := .glo "is_step") rfl), F.kp, F.bindsN (ps := ["thing"]) fun _ _ _ _ _ _ us hl => match us, hl with | [_], _ => rfl⟩
theorem k_check_steps : FIK D 4 (.fn "check_steps" 1 true) F_check_steps := by
  obtain ⟨fd, F⟩ := X.t.def_ 6 (d := d_check_steps) rfl
  exact ⟨_, fd, ["steps"], def_ok (k := 3) (wd X) F sc_check_steps (.cons (k_BadStep X) (by decide) (.cons (j := 0) (int_const (X.int "MOST_STEPS" 5 (X.t.fact 76 (f := .int "MOST_STEPS" 5) rfl))) (by decide) (.cons (k_is_step X) (by decide) (.cons (j := 0) (int_const (X.int "MOST_TIMES" 1 (X.t.fact 77 (f := .int "MOST_TIMES" 1) rfl))) (by decide) (.nil))))) c_check_steps, X.gl "check_steps" (X.t.fact 22 (f := .glo "check_steps") rfl), F.kp, F.bindsN (ps := ["steps"]) fun _ _ _ _ _ _ us hl => match us, hl with | [_], _ => rfl⟩
theorem k_new : FIK D 6 (.hk (hkNew "Program" 3)) F_new_Program := by
  obtain ⟨fd, F⟩ := X.t.def_ 37 (d := d_ini) rfl
  exact new_ok (by rw [X.cP]; exact He.mkr_ok (X.t.fact 63 (f := .mkr "Program") rfl)) (by rw [X.cP]; exact X.gl "Program" (X.t.fact 58 (f := .glo "Program") rfl)) (F.bindsN (ps := N_new_Program) fun _ _ _ _ _ _ us hl => match us, hl with | [_, _, _, _], _ => rfl)
    (ini_ok (k := 4) (wd X) rfl F sc_ini (.cons (k_check_held X) (by decide) (.cons (k_check_steps X) (by decide) (.cons (k_is_word X) (by decide) (.cons (j := 0) (tup_const (tu_TOLD X) (by decide +kernel) (by decide)) (by decide) (.cons (k_BadTold X) (by decide) (.nil)))))) c_ini)
theorem k_law_built : FIK D 7 (.fn "_law_built" 1 false) F_law_built := by
  obtain ⟨fd, F⟩ := X.t.def_ 7 (d := d_law_built) rfl
  exact ⟨_, fd, ["_law_parts_here"], def_ok (k := 6) (wd X) F sc_law_built (.cons (k_new X) (by decide) (.nil)) c_law_built, X.gl "_law_built" (X.t.fact 23 (f := .glo "_law_built") rfl), F.kp, F.bindsN (ps := ["_law_parts_here"]) fun _ _ _ _ _ _ us hl => match us, hl with | [_], _ => rfl⟩
theorem k_law_next : FIK D 1 (.fn "_law_next" 2 true) F_law_next := by
  obtain ⟨fd, F⟩ := X.t.def_ 8 (d := d_law_next) rfl
  exact ⟨_, fd, ["_law_h", "_law_cap"], def_ok (k := 0) (wd X) F sc_law_next (.nil) c_law_next, X.gl "_law_next" (X.t.fact 24 (f := .glo "_law_next") rfl), F.kp, F.bindsN (ps := ["_law_h", "_law_cap"]) fun _ _ _ _ _ _ us hl => match us, hl with | [_, _], _ => rfl⟩
theorem k_law_pick : FIK D 2 (.fn "_law_pick" 2 false) F_law_pick := by
  obtain ⟨fd, F⟩ := X.t.def_ 9 (d := d_law_pick) rfl
  exact ⟨_, fd, ["_law_h", "_law_things"], def_ok (k := 1) (wd X) F sc_law_pick (.cons (k_law_next X) (by decide) (.nil)) c_law_pick, X.gl "_law_pick" (X.t.fact 25 (f := .glo "_law_pick") rfl), F.kp, F.bindsN (ps := ["_law_h", "_law_things"]) fun _ _ _ _ _ _ us hl => match us, hl with | [_, _], _ => rfl⟩
theorem k_law_worth : FIK D 3 (.fn "_law_worth" 1 false) F_law_worth := by
  obtain ⟨fd, F⟩ := X.t.def_ 10 (d := d_law_worth) rfl
  exact ⟨_, fd, ["_law_h"], def_ok (k := 2) (wd X) F sc_law_worth (.cons (k_law_next X) (by decide) (.cons (k_law_pick X) (by decide) (.nil))) c_law_worth, X.gl "_law_worth" (X.t.fact 26 (f := .glo "_law_worth") rfl), F.kp, F.bindsN (ps := ["_law_h"]) fun _ _ _ _ _ _ us hl => match us, hl with | [_], _ => rfl⟩
theorem k_law_steps : FIK D 4 (.fn "_law_steps" 2 true) F_law_steps := by
  obtain ⟨fd, F⟩ := X.t.def_ 11 (d := d_law_steps) rfl
  exact ⟨_, fd, ["_law_h", "_law_most"], def_ok (k := 3) (wd X) F sc_law_steps (.cons (k_law_next X) (by decide) (.cons (k_law_pick X) (by decide) (.cons (k_law_worth X) (by decide) (.nil)))) c_law_steps, X.gl "_law_steps" (X.t.fact 27 (f := .glo "_law_steps") rfl), F.kp, F.bindsN (ps := ["_law_h", "_law_most"]) fun _ _ _ _ _ _ us hl => match us, hl with | [_, _], _ => rfl⟩
theorem k_law_parts : FIK D 5 (.fn "_law_parts" 2 true) F_law_parts := by
  obtain ⟨fd, F⟩ := X.t.def_ 12 (d := d_law_parts) rfl
  exact ⟨_, fd, ["_law_h", "_law_most"], def_ok (k := 4) (wd X) F sc_law_parts (.cons (k_law_pick X) (by decide) (.cons (k_law_steps X) (by decide) (.nil))) c_law_parts, X.gl "_law_parts" (X.t.fact 28 (f := .glo "_law_parts") rfl), F.kp, F.bindsN (ps := ["_law_h", "_law_most"]) fun _ _ _ _ _ _ us hl => match us, hl with | [_, _], _ => rfl⟩
theorem k_law_entry : FIK D 2 (.fn "_law_entry" 1 false) F_law_entry := by
  obtain ⟨fd, F⟩ := X.t.def_ 13 (d := d_law_entry) rfl
  exact ⟨_, fd, ["_law_h"], def_ok (k := 1) (wd X) F sc_law_entry (.cons (k_law_next X) (by decide) (.nil)) c_law_entry, X.gl "_law_entry" (X.t.fact 29 (f := .glo "_law_entry") rfl), F.kp, F.bindsN (ps := ["_law_h"]) fun _ _ _ _ _ _ us hl => match us, hl with | [_], _ => rfl⟩
theorem k_law_table : FIK D 3 (.fn "_law_table" 2 true) F_law_table := by
  obtain ⟨fd, F⟩ := X.t.def_ 14 (d := d_law_table) rfl
  exact ⟨_, fd, ["_law_h", "_law_most"], def_ok (k := 2) (wd X) F sc_law_table (.cons (k_law_next X) (by decide) (.cons (k_law_pick X) (by decide) (.cons (k_law_entry X) (by decide) (.nil)))) c_law_table, X.gl "_law_table" (X.t.fact 30 (f := .glo "_law_table") rfl), F.kp, F.bindsN (ps := ["_law_h", "_law_most"]) fun _ _ _ _ _ _ us hl => match us, hl with | [_, _], _ => rfl⟩
theorem k_law_alike (n : Nat) : FIK D (1 + n) (.fn "_law_alike" 2 false) (F_law_alike n) := by
  obtain ⟨fd, F⟩ := X.t.def_ 15 (d := d_law_alike) rfl
  induction n with
  | zero => exact ⟨_, fd, ["_law_found", "_law_due"], stuck_ok (k := 0) F sc_law_alike, X.gl "_law_alike" (X.t.fact 31 (f := .glo "_law_alike") rfl), F.kp, F.bindsN (ps := ["_law_found", "_law_due"]) fun _ _ _ _ _ _ us hl => match us, hl with | [_, _], _ => rfl⟩
  | succ n ih => exact ⟨_, fd, ["_law_found", "_law_due"], def_ok (k := 1 + n) (wd X) F sc_law_alike (.cons ih (by omega) (.nil)) c_law_alike, X.gl "_law_alike" (X.t.fact 31 (f := .glo "_law_alike") rfl), F.kp, F.bindsN (ps := ["_law_found", "_law_due"]) fun _ _ _ _ _ _ us hl => match us, hl with | [_, _], _ => rfl⟩
theorem k_is_mark : FIK D 1 (.fn "is_mark" 1 true) F_is_mark := by
  obtain ⟨fd, F⟩ := X.t.def_ 16 (d := d_is_mark) rfl
  exact ⟨_, fd, ["thing"], def_ok (k := 0) (wd X) F sc_is_mark (.cons (j := 0) (str_const (X.str "MARKS" "abc" (X.t.fact 74 (f := .str "MARKS" "abc") rfl)) (by decide +kernel)) (by decide) (.nil)) c_is_mark, X.gl "is_mark" (X.t.fact 32 (f := .glo "is_mark") rfl), F.kp, F.bindsN (ps := ["thing"]) fun _ _ _ _ _ _ us hl => match us, hl with | [_], _ => rfl⟩
theorem k_is_row : FIK D 2 (.fn "is_row" 1 true) F_is_row := by
  obtain ⟨fd, F⟩ := X.t.def_ 17 (d := d_is_row) rfl
  exact ⟨_, fd, ["thing"], def_ok (k := 1) (wd X) F sc_is_row (.cons (k_is_mark X) (by decide) (.cons (k_is_integer X) (by decide) (.nil))) c_is_row, X.gl "is_row" (X.t.fact 33 (f := .glo "is_row") rfl), F.kp, F.bindsN (ps := ["thing"]) fun _ _ _ _ _ _ us hl => match us, hl with | [_], _ => rfl⟩
theorem k_check_table : FIK D 3 (.fn "check_table" 1 true) F_check_table := by
  obtain ⟨fd, F⟩ := X.t.def_ 18 (d := d_check_table) rfl
  exact ⟨_, fd, ["table"], def_ok (k := 2) (wd X) F sc_check_table (.cons (k_BadRow X) (by decide) (.cons (k_is_row X) (by decide) (.nil))) c_check_table, X.gl "check_table" (X.t.fact 34 (f := .glo "check_table") rfl), F.kp, F.bindsN (ps := ["table"]) fun _ _ _ _ _ _ us hl => match us, hl with | [_], _ => rfl⟩
theorem k_marks_in : FIK D 1 (.fn "marks_in" 4 true) F_marks_in := by
  obtain ⟨fd, F⟩ := X.t.def_ 19 (d := d_marks_in) rfl
  exact ⟨_, fd, ["program", "mark", "scope", "behind"], def_ok (k := 0) (wd X) F sc_marks_in (.cons (j := 0) (str_const (X.str "MARKS" "abc" (X.t.fact 74 (f := .str "MARKS" "abc") rfl)) (by decide +kernel)) (by decide) (.nil)) c_marks_in, X.gl "marks_in" (X.t.fact 35 (f := .glo "marks_in") rfl), F.kp, F.bindsN (ps := ["program", "mark", "scope", "behind"]) fun _ _ _ _ _ _ us hl => match us, hl with | [_, _, _, _], _ => rfl⟩
theorem k_entry_of : FIK D 1 (.fn "entry_of" 2 false) F_entry_of := by
  obtain ⟨fd, F⟩ := X.t.def_ 20 (d := d_entry_of) rfl
  exact ⟨_, fd, ["row", "column"], def_ok (k := 0) (wd X) F sc_entry_of (.nil) c_entry_of, X.gl "entry_of" (X.t.fact 36 (f := .glo "entry_of") rfl), F.kp, F.bindsN (ps := ["row", "column"]) fun _ _ _ _ _ _ us hl => match us, hl with | [_, _], _ => rfl⟩
theorem k_worth_for : FIK D 2 (.fn "worth_for" 4 false) F_worth_for := by
  obtain ⟨fd, F⟩ := X.t.def_ 21 (d := d_worth_for) rfl
  exact ⟨_, fd, ["program", "worth", "mark", "table"], def_ok (k := 1) (wd X) F sc_worth_for (.cons (k_marks_in X) (by decide) (.cons (k_entry_of X) (by decide) (.nil))) c_worth_for, X.gl "worth_for" (X.t.fact 37 (f := .glo "worth_for") rfl), F.kp, F.bindsN (ps := ["program", "worth", "mark", "table"]) fun _ _ _ _ _ _ us hl => match us, hl with | [_, _, _, _], _ => rfl⟩
theorem k_with_entry : FIK D 1 (.fn "with_entry" 3 true) F_with_entry := by
  obtain ⟨fd, F⟩ := X.t.def_ 22 (d := d_with_entry) rfl
  exact ⟨_, fd, ["row", "column", "entry"], def_ok (k := 0) (wd X) F sc_with_entry (.nil) c_with_entry, X.gl "with_entry" (X.t.fact 38 (f := .glo "with_entry") rfl), F.kp, F.bindsN (ps := ["row", "column", "entry"]) fun _ _ _ _ _ _ us hl => match us, hl with | [_, _, _], _ => rfl⟩
theorem k_changed_entry : FIK D 2 (.fn "changed_entry" 3 false) F_changed_entry := by
  obtain ⟨fd, F⟩ := X.t.def_ 23 (d := d_changed_entry) rfl
  exact ⟨_, fd, ["step", "row", "worths"], def_ok (k := 1) (wd X) F sc_changed_entry (.cons (k_entry_of X) (by decide) (.nil)) c_changed_entry, X.gl "changed_entry" (X.t.fact 39 (f := .glo "changed_entry") rfl), F.kp, F.bindsN (ps := ["step", "row", "worths"]) fun _ _ _ _ _ _ us hl => match us, hl with | [_, _, _], _ => rfl⟩
theorem k_stepped : FIK D 3 (.fn "stepped" 3 true) F_stepped := by
  obtain ⟨fd, F⟩ := X.t.def_ 24 (d := d_stepped) rfl
  exact ⟨_, fd, ["program", "table", "many"], def_ok (k := 2) (wd X) F sc_stepped (.cons (j := 0) (str_const (X.str "MARKS" "abc" (X.t.fact 74 (f := .str "MARKS" "abc") rfl)) (by decide +kernel)) (by decide) (.cons (k_worth_for X) (by decide) (.cons (k_with_entry X) (by decide) (.cons (k_changed_entry X) (by decide) (.nil))))) c_stepped, X.gl "stepped" (X.t.fact 40 (f := .glo "stepped") rfl), F.kp, F.bindsN (ps := ["program", "table", "many"]) fun _ _ _ _ _ _ us hl => match us, hl with | [_, _, _], _ => rfl⟩
theorem k_done : FIK D 4 (.fn "done" 2 true) F_done := by
  obtain ⟨fd, F⟩ := X.t.def_ 25 (d := d_done) rfl
  exact ⟨_, fd, ["program", "table"], def_ok (k := 3) (wd X) F sc_done (.cons (k_check_table X) (by decide) (.cons (k_stepped X) (by decide) (.nil))) c_done, X.gl "done" (X.t.fact 41 (f := .glo "done") rfl), F.kp, F.bindsN (ps := ["program", "table"]) fun _ _ _ _ _ _ us hl => match us, hl with | [_, _], _ => rfl⟩
theorem k_done_by : FIK D 4 (.fn "done_by" 3 true) F_done_by := by
  obtain ⟨fd, F⟩ := X.t.def_ 26 (d := d_done_by) rfl
  exact ⟨_, fd, ["program", "table", "many"], def_ok (k := 3) (wd X) F sc_done_by (.cons (k_check_table X) (by decide) (.cons (k_is_integer X) (by decide) (.cons (k_BadIndex X) (by decide) (.cons (k_stepped X) (by decide) (.nil))))) c_done_by, X.gl "done_by" (X.t.fact 42 (f := .glo "done_by") rfl), F.kp, F.bindsN (ps := ["program", "table", "many"]) fun _ _ _ _ _ _ us hl => match us, hl with | [_, _, _], _ => rfl⟩
theorem k_Program_columns : FIK D 2 (.hk (hkPrp "columns" false)) (prpF F_Program_columns) := by
  obtain ⟨fd, F, B⟩ := getB_ok (k := 0) (g := getAd D.C.K D.C.cP "columns") (wd X) (.nil) (by rw [X.cP]; exact (He.ba (He.ba (He.ba (He.ba (He.ba (He.ba (He.ba (He.ba (He.ba (He.ba (He.ba (He.ba X.e).2).2).2).2).2).2).2).2).2).2).2).2)
  exact prp_ok (wd X).prg (by rw [X.cP]; exact propB_ok ((He.ba (He.ba (He.ba (He.ba (He.ba (He.ba (He.ba (He.ba (He.ba (He.ba (He.ba (He.ba X.e).2).2).2).2).2).2).2).2).2).2).2).1)) F B
theorem k_told_of : FIK D 4 (.fn "told_of" 2 true) F_told_of := by
  obtain ⟨fd, F⟩ := X.t.def_ 27 (d := d_told_of) rfl
  exact ⟨_, fd, ["program", "table"], def_ok (k := 3) (wd X) F sc_told_of (.cons (k_stepped X) (by decide) (.cons (k_Program_columns X) (by decide) (.cons (k_entry_of X) (by decide) (.nil)))) c_told_of, X.gl "told_of" (X.t.fact 43 (f := .glo "told_of") rfl), F.kp, F.bindsN (ps := ["program", "table"]) fun _ _ _ _ _ _ us hl => match us, hl with | [_, _], _ => rfl⟩
theorem k_told : FIK D 5 (.fn "told" 2 true) F_told := by
  obtain ⟨fd, F⟩ := X.t.def_ 28 (d := d_told) rfl
  exact ⟨_, fd, ["program", "table"], def_ok (k := 4) (wd X) F sc_told (.cons (k_check_table X) (by decide) (.cons (k_told_of X) (by decide) (.nil))) c_told, X.gl "told" (X.t.fact 44 (f := .glo "told") rfl), F.kp, F.bindsN (ps := ["program", "table"]) fun _ _ _ _ _ _ us hl => match us, hl with | [_, _], _ => rfl⟩
theorem k_kind_of : FIK D 2 (.fn "kind_of" 1 true) F_kind_of := by
  obtain ⟨fd, F⟩ := X.t.def_ 29 (d := d_kind_of) rfl
  exact ⟨_, fd, ["row"], def_ok (k := 1) (wd X) F sc_kind_of (.cons (k_entry_of X) (by decide) (.cons (j := 0) (tup_const (tu_COLUMNS X) (by decide +kernel) (by decide)) (by decide) (.nil))) c_kind_of, X.gl "kind_of" (X.t.fact 45 (f := .glo "kind_of") rfl), F.kp, F.bindsN (ps := ["row"]) fun _ _ _ _ _ _ us hl => match us, hl with | [_], _ => rfl⟩
theorem k_variable_in : FIK D 3 (.fn "variable_in" 3 false) F_variable_in := by
  obtain ⟨fd, F⟩ := X.t.def_ 30 (d := d_variable_in) rfl
  exact ⟨_, fd, ["name", "table", "index"], def_ok (k := 2) (wd X) F sc_variable_in (.cons (j := 0) (str_const (X.str "OWN" "own" (X.t.fact 78 (f := .str "OWN" "own") rfl)) (by decide +kernel)) (by decide) (.cons (k_entry_of X) (by decide) (.cons (k_kind_of X) (by decide) (.cons (j := 0) (str_const (X.str "ROWS" "rows" (X.t.fact 79 (f := .str "ROWS" "rows") rfl)) (by decide +kernel)) (by decide) (.nil))))) c_variable_in, X.gl "variable_in" (X.t.fact 46 (f := .glo "variable_in") rfl), F.kp, F.bindsN (ps := ["name", "table", "index"]) fun _ _ _ _ _ _ us hl => match us, hl with | [_, _, _], _ => rfl⟩
theorem k_worth_of : FIK D 4 (.fn "worth_of" 3 false) F_worth_of := by
  obtain ⟨fd, F⟩ := X.t.def_ 31 (d := d_worth_of) rfl
  exact ⟨_, fd, ["formula", "table", "index"], def_ok (k := 3) (wd X) F sc_worth_of (.cons (k_check_table X) (by decide) (.cons (k_is_integer X) (by decide) (.cons (k_BadIndex X) (by decide) (.cons (k_variable_in X) (by decide) (.nil))))) c_worth_of, X.gl "worth_of" (X.t.fact 47 (f := .glo "worth_of") rfl), F.kp, F.bindsN (ps := ["formula", "table", "index"]) fun _ _ _ _ _ _ us hl => match us, hl with | [_, _, _], _ => rfl⟩
theorem k_is_leak : FIK D 5 (.fn "is_leak" 3 true) F_is_leak := by
  obtain ⟨fd, F⟩ := X.t.def_ 32 (d := d_is_leak) rfl
  exact ⟨_, fd, ["program", "one", "other"], def_ok (k := 4) (wd X) F sc_is_leak (.cons (k_check_table X) (by decide) (.cons (k_told_of X) (by decide) (.nil))) c_is_leak, X.gl "is_leak" (X.t.fact 48 (f := .glo "is_leak") rfl), F.kp, F.bindsN (ps := ["program", "one", "other"]) fun _ _ _ _ _ _ us hl => match us, hl with | [_, _, _], _ => rfl⟩
theorem k_newD : FIK D 5 (.hk (hkNew "Desk" 2)) (newCF F_Desk_init) := by
  obtain ⟨fd, F⟩ := X.t.def_ 33 (d := d_Desk_init) rfl
  exact newC_ok (n := 1) (by rw [X.cI]; exact He.mkr_ok (X.t.fact 66 (f := .mkr "Desk") rfl)) (by rw [X.cI]; exact X.gl "Desk" (X.t.fact 64 (f := .glo "Desk") rfl)) (F.bindsN (ps := ["self", "program", "table"]) fun _ _ _ _ _ _ us hl => match us, hl with | [_, _, _], _ => rfl)
    (def_ok (k := 3) (wd X) F sc_Desk_init (.cons (k_check_table X) (by decide) (.cons (j := 0) (k_hf_now X) (by decide) (.cons (j := 0) (k_hf_past X) (by decide) (.cons (j := 0) (k_hf_future X) (by decide) (.cons (j := 0) (k_hf_origin X) (by decide) (.cons (j := 0) (k_hf_inner X) (by decide) (.nil))))))) c_Desk_init)
theorem k_law_ask : FIK D 6 (.fn "_law_ask" 3 false) F_law_ask := by
  obtain ⟨fd, F⟩ := X.t.def_ 34 (d := d_law_ask) rfl
  exact ⟨_, fd, ["_law_numeral", "_law_program", "_law_table_here"], def_ok (k := 5) (wd X) F sc_law_ask (.cons (k_check_table X) (by decide) (.cons (k_done X) (by decide) (.cons (k_done_by X) (by decide) (.cons (k_told X) (by decide) (.cons (k_worth_of X) (by decide) (.cons (k_is_leak X) (by decide) (.cons (k_newD X) (by decide) (.nil)))))))) c_law_ask, X.gl "_law_ask" (X.t.fact 49 (f := .glo "_law_ask") rfl), F.kp, F.bindsN (ps := ["_law_numeral", "_law_program", "_law_table_here"]) fun _ _ _ _ _ _ us hl => match us, hl with | [_, _, _], _ => rfl⟩
theorem k_law_refused : FIK D 7 (.fn "_law_refused" 3 false) F_law_refused_3 := by
  obtain ⟨fd, F⟩ := X.t.def_ 35 (d := d_law_refused) rfl
  exact ⟨_, fd, ["_law_numeral", "_law_program", "_law_table_here"], def_ok (k := 6) (wd X) F sc_law_refused (.cons (k_law_ask X) (by decide) (.nil)) c_law_refused, X.gl "_law_refused" (X.t.fact 50 (f := .glo "_law_refused") rfl), F.kp, F.bindsN (ps := ["_law_numeral", "_law_program", "_law_table_here"]) fun _ _ _ _ _ _ us hl => match us, hl with | [_, _, _], _ => rfl⟩
theorem fn_law {f : Addr} {fd : FuncData} (F : FunD D.C.K "law" "law" (defArgs s_law) (defBody s_law) (defScope s_law) [] [] f fd) : FnKx D 8 1 true F_law_k02 f fd ["_law_script"] := def_ok (k := 7) (wd X) F sc_law (.cons (k_law_mix X) (by decide) (.cons (k_law_built X) (by decide) (.cons (k_law_parts X) (by decide) (.cons (k_law_table X) (by decide) (.cons (k_law_next X) (by decide) (.cons (k_law_pick X) (by decide) (.cons (k_law_alike X 6) (by decide) (.cons (k_law_refused X) (by decide) (.cons (k_check_table X) (by decide) (.nil)))))))))) c_law
end
end Gk02

open PySem PySem.W PySem.Calls PyProof.Rows
set_option maxHeartbeats 0 in
theorem PySem.Challenge.cw_keptback_k02_tables_refused_holds : PySem.Challenge.rw_keptback_k02_tables_refused.Holds := by
  w_on; o_law
  refine HandSHeadRun.head_any (r := OpenLaw.row PySem.Challenge.rw_keptback_k02_tables_refused) (q := view (OpenLaw.row PySem.Challenge.rw_keptback_k02_tables_refused).prog [63]) (H := Gk02.hk) (ob := Gk02.ob) (M := 6000) (loose := Gk02.loose) (d := HandSHeadRun.topDef (OpenLaw.row PySem.Challenge.rw_keptback_k02_tables_refused).prog 63) (kwd := []) Gk02.ob_eq
    (by kernel_rfl) (fun s => by kernel_rfl) Gk02.run (by kernel_rfl) (by kernel_rfl) (by kernel_rfl) (by rfl) (by first | assumption | decide +kernel) (by decide +kernel) ⟨rfl, rfl, rfl, rfl, rfl, by decide +kernel⟩ ?hw ?hc
  case hw => w_witness2
  case hc =>
    refine MP.walkW (l := PySem.Challenge.rw_keptback_k02_tables_refused) (n := 63) (k := 8) (x := "_law_script") rfl (by decide) (by kernel_rfl) ⟨rfl, by decide, by decide⟩ ?F
    intro w mg fa h Y G hmg0
    obtain ⟨K, KX, ct, cex⟩ := Y
    have hmg : mg ("law" : PySem.Str) = some (.ref fa) := by
      have e : (HandSHeadRun.topDef (OpenLaw.row PySem.Challenge.rw_keptback_k02_tables_refused).prog 63).name = ("law" : PySem.Str) := by kernel_rfl
      rw [← e]
      exact hmg0
    have fx : ∀ base : PySem.Heap, MP.Fx Gk02.fa Gk02.fn Gk02.ex Gk02.fileN ⟨⟨K, He.ga K "Program", MP.cxA K, fun _ => He.ga K "Desk"⟩, (PySem.Challenge.rw_keptback_k02_tables_refused).prog, w, mg, base⟩ := fun base =>
      ⟨ct, cex, fun x h => He.glo_ok KX G h, fun x h => He.free_ok KX G h, fun x i h => He.int_ok KX G h, fun x z h => He.str_ok KX G h, rfl, rfl, rfl, by kernel_rfl, rfl⟩
    obtain ⟨fd, F⟩ := ct.def_ 36 (d := Gk02.d_law) rfl
    have e := hmg.symm.trans (He.glo_ok KX G (ct.fact 51 (f := .glo "law") rfl))
    cases e
    have b := L2.FunD.bindsA (ps := ["_law_script"]) F fun _ _ _ _ _ _ us hl => match us, hl with | [_], _ => rfl
    refine ⟨K, fd, MP.spD ⟨K, He.ga K "Program", MP.cxA K, fun _ => He.ga K "Desk"⟩ 1 true PG.F_law_k02, KX, fun s v => b s [v] rfl, fun H a ns hl hO hS => ?_, fun base _ _ => Gk02.fn_law (fx base) F⟩
    obtain ⟨S2, hS2⟩ := PG.law_true_k02 ns hl
    exact MP.law_sp (n := 63) (by decide) hl hS hO hS2
