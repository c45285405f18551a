import PyProof.Rows.All
import Wide.All
import OpenK.AllK
import Wide.FinOn
import HandS.ForExc
import HandS.ForMost
import HandS.Flow
import HandS.Deep
import HandS.TupAny
import HandS.Star
import HandS.IsInst
import HandS.Property
import HandS.StrMore
import HandS.Strs
import HandS.TryMany
import HandS.TryElse
import HandS.CallSlots
import HandS.ExcField
import HandS.ExcIs
import HandS.Wide
import HandS.OwnEq
import HandS.FStr
import HandS.DictComp
import HandS.Style
import HandS.Defaults
import HandS.HeadEnd
import KE.KStateDown
import HandS.Head0
import HandS.Head1
import HandS.Head2
import HandS.HeadHook1
import HandS.HeadHook2
import HandS.HeadHook3
import HandS.HeadHook4
import PySem.Challenge.RW_keptback_k15_whole_tables_added
set_option Elab.async false
set_option linter.all false
set_option maxRecDepth 100000
set_option autoImplicit false
set_option maxHeartbeats 0
/-! MP: a small evaluator over tree data. Part D: data, expressions, statements, what they yield. -/
namespace MP
open PySem

/-- data as trees; ref: a cell of the store (a thing that changes) -/
inductive D where
  | non | bl (b : Bool) | int (i : Int) | str (x : Str)
  | tup (xs : List D) | lst (xs : List D) | dic (kvs : List (D × D))
  | prg (h : Str) (ss : List D) (c : Str)
  | ref (n : Nat)
  | scr (ns : List Int)
  deriving Inhabited

/-- what stands in the store -/
inductive Cell where
  | lst (xs : List D)
  | ins (k : Nat) (fs : List (Str × D))
abbrev Sto := List Cell
/-- an exception: its class, its one field -/
structure Exn where
  c : Nat
  a : Option D
inductive R (α : Type) where
  | ok (a : α) (s : Sto)
  | exc (x : Exn) (s : Sto)
  | stuck
def R.bind {α β : Type} (r : R α) (f : α → Sto → R β) : R β := match r with
  | .ok a s => f a s
  | .exc x s => .exc x s
  | .stuck => .stuck
@[simp] theorem R.bind_ok {α β : Type} (a : α) (s : Sto) (f : α → Sto → R β) : (R.ok a s).bind f = f a s := rfl
@[simp] theorem R.bind_exc {α β : Type} (x : Exn) (s : Sto) (f : α → Sto → R β) : (R.exc x s : R α).bind f = .exc x s := rfl
@[simp] theorem R.bind_stuck {α β : Type} (f : α → Sto → R β) : (R.stuck : R α).bind f = .stuck := rfl
def R.nox {α : Type} (r : R α) : R α := match r with
  | .ok a s => .ok a s
  | _ => .stuck
@[simp] theorem R.nox_ok {α : Type} (a : α) (s : Sto) : (R.ok a s).nox = .ok a s := rfl
@[simp] theorem R.nox_exc {α : Type} (x : Exn) (s : Sto) : (R.exc x s : R α).nox = .stuck := rfl
@[simp] theorem R.nox_stuck {α : Type} : (R.stuck : R α).nox = .stuck := rfl
def R.of {α : Type} (o : Option α) (s : Sto) : R α := match o with | some a => .ok a s | none => .stuck
@[simp] theorem R.of_some {α : Type} (a : α) (s : Sto) : R.of (some a) s = .ok a s := rfl
@[simp] theorem R.of_none {α : Type} (s : Sto) : (R.of none s : R α) = .stuck := rfl

/-- the longest that a list or a text may be -/
def BIG : Nat := 16777216
def sOk (x : Str) : Bool := decide (x.length ≤ BIG) && x.cps.all (· < 0x110000)
def mkStr (x : Str) : Option D := if sOk x then some (.str x) else none
def mkLst (xs : List D) : Option D := if xs.length ≤ BIG then some (.lst xs) else none
def mkTup (xs : List D) : Option D := if xs.length ≤ BIG then some (.tup xs) else none

/-! ### equality, order, truth -/
mutual
def D.eqv : D → D → Bool
  | .non, .non => true
  | .bl a, .bl b => a == b
  | .bl a, .int j => (if a then 1 else 0) == j
  | .int i, .bl b => i == (if b then 1 else 0)
  | .int i, .int j => i == j
  | .str x, .str y => x == y
  | .lst xs, .lst ys => D.eqvs xs ys
  | .tup xs, .tup ys => D.eqvs xs ys
  | _, _ => false
def D.eqvs : List D → List D → Bool
  | [], [] => true
  | x :: xs, y :: ys => D.eqv x y && D.eqvs xs ys
  | _, _ => false
end
/-! plain data no deeper than n -/
mutual
def D.plain : Nat → D → Bool
  | _, .non | _, .bl _ | _, .int _ | _, .str _ => true
  | 0, .tup _ | 0, .lst _ => false
  | n + 1, .tup xs | n + 1, .lst xs => D.plains n xs
  | _, .dic _ | _, .prg _ _ _ | _, .ref _ | _, .scr _ => false
def D.plains : Nat → List D → Bool
  | _, [] => true
  | n, x :: xs => D.plain n x && D.plains n xs
end
def D.truth : D → Option Bool
  | .non => some false
  | .bl b => some b
  | .int i => some (i != 0)
  | .str x => some ((x.length : Int) != 0)
  | .tup xs | .lst xs => some (!xs.isEmpty)
  | .dic kvs => some (!kvs.isEmpty)
  | _ => none

def D.flat : D → Bool
  | .non | .bl _ | .int _ | .str _ => true
  | _ => false
inductive CO where
  | eq | ne | lt | le | gt | ge | in_ | nin
  deriving DecidableEq
def dCmp : CO → D → D → Option Bool
  | .eq, a, b => if a.plain 64 && b.plain 64 then some (a.eqv b) else none
  | .ne, a, b => if a.plain 64 && b.plain 64 then some (!a.eqv b) else none
  | .lt, .int i, .int j => some (decide (i < j))
  | .le, .int i, .int j => some (decide (i ≤ j))
  | .gt, .int i, .int j => some (decide (j < i))
  | .ge, .int i, .int j => some (decide (j ≤ i))
  | .lt, .str x, .str y => some (decide (x.cps.toList < y.cps.toList))
  | .le, .str x, .str y => some (!decide (y.cps.toList < x.cps.toList))
  | .gt, .str x, .str y => some (decide (y.cps.toList < x.cps.toList))
  | .ge, .str x, .str y => some (!decide (x.cps.toList < y.cps.toList))
  | .in_, x, .lst ys => if x.plain 63 && D.plains 63 ys then some (ys.any fun y => y.eqv x) else none
  | .nin, x, .lst ys => if x.plain 63 && D.plains 63 ys then some (!(ys.any fun y => y.eqv x)) else none
  | .in_, x, .tup ys => if x.flat && ys.all D.flat then some (ys.any fun y => y.eqv x) else none
  | .nin, x, .tup ys => if x.flat && ys.all D.flat then some (!(ys.any fun y => y.eqv x)) else none
  | .in_, .str x, .str y => some (!(Builtin.Str.occurrences y x 0 y.length 1).isEmpty)
  | .nin, .str x, .str y => some (!(!(Builtin.Str.occurrences y x 0 y.length 1).isEmpty))
  | _, _, _ => none

inductive BO where
  | add | sub | mul | fdiv | mod | pow
  deriving DecidableEq
def small (i : Int) : Bool := decide (-(2 ^ 64) < i) && decide (i < 2 ^ 64)
def dBin : BO → D → D → Option D
  | .add, .int i, .int j => some (.int (i + j))
  | .add, .str x, .str y => mkStr (x ++ y)
  | .add, .lst x, .lst y => mkLst (x ++ y)
  | .add, .tup x, .tup y => mkTup (x ++ y)
  | .sub, .int i, .int j => some (.int (i - j))
  | .mul, .int i, .int j => if small i || small j then some (.int (i * j)) else none
  | .fdiv, .int i, .int j => if decide (0 < j) && decide (j < 1073741824) then some (.int (i / j)) else none
  | .mod, .int i, .int j => if decide (0 < j) then some (.int (i % j)) else none
  | .pow, .int i, .int j => if decide (0 ≤ j) && decide (j ≤ 1000000) && decide (i.natAbs < 2 ^ 64) then some (.int (i ^ j.toNat)) else none
  | _, _, _ => none

/-! ### items, slices -/
def dIdx0 : D → D → Option D
  | .lst xs, .int i | .tup xs, .int i => L2.atI xs i
  | .str x, .int i => (L2.atI x.cps.toList i).bind fun c => mkStr ⟨#[c]⟩
  | _, _ => none
def dGet (kvs : List (D × D)) : D → Option D
  | .str x => (kvs.find? fun kv => kv.1.eqv (.str x)).map (·.2)
  | _ => none
def dIdx (x y : D) : Option D := match x with
  | .dic kvs => dGet kvs y
  | _ => dIdx0 x y
def cut {α : Type} (xs : List α) (lo hi : Option Int) : List α := (xs.drop (HT.sIx xs.length 0 lo)).take (HT.sIx xs.length xs.length hi - HT.sIx xs.length 0 lo)
def dSlice (d : D) (l h : Option Int) : Option D := match d with
  | .lst xs => some (.lst (cut xs l h))
  | .tup xs => some (.tup (cut xs l h))
  | .str x => mkStr (L2.cutS x l h)
  | _ => none
def asInt : D → Option Int
  | .int i => some i
  | _ => none

inductive Ty where
  | int | bool | str | tup | lst | dic
  deriving DecidableEq
def isTy : Ty → D → Bool
  | .int, .int _ | .int, .bl _ | .bool, .bl _ | .str, .str _ | .tup, .tup _ | .lst, .lst _ | .dic, .dic _ => true
  | _, _ => false
def isTys (ts : List Ty) : D → Option D
  | .prg _ _ _ | .ref _ | .scr _ => none
  | d => some (.bl (ts.any fun t => isTy t d))

def dInts : List D → Option (List Int)
  | [] => some []
  | .int i :: r => (dInts r).map (i :: ·)
  | _ :: _ => none
def dBools : List D → Option (List Bool)
  | [] => some []
  | .bl i :: r => (dBools r).map (i :: ·)
  | _ :: _ => none
def dStrs : List D → Option (List Str)
  | [] => some []
  | .str i :: r => (dStrs r).map (i :: ·)
  | _ :: _ => none

inductive Blt where
  | len | int | list | tuple | sum | str | max2 | all | any
  deriving DecidableEq
def dBlt : Blt → List D → Option D
  | .len, [.lst xs] | .len, [.tup xs] => some (.int xs.length)
  | .len, [.dic kvs] => some (.int kvs.length)
  | .len, [.str x] => some (.int x.length)
  | .int, [.int i] => some (.int i)
  | .int, [.bl b] => some (.int (if b then 1 else 0))
  | .int, [.str x] => if x.length ≤ 640 then (PySem.intText? x).map .int else none
  | .list, [.lst xs] | .list, [.tup xs] => some (.lst xs)
  | .list, [.scr ns] => some (.lst (ns.map .int))
  | .tuple, [.lst xs] | .tuple, [.tup xs] => some (.tup xs)
  | .sum, [.lst xs] => (dInts xs).map fun ns => .int ns.sum
  | .str, [.int i] => if i.natAbs.log2 < 1920 then mkStr (toString i) else none
  | .max2, [.int i, .int j] => some (.int (if j > i then j else i))
  | .all, [.lst xs] => (dBools xs).map fun bs => .bl (bs.all id)
  | .any, [.lst xs] => (dBools xs).map fun bs => .bl (bs.any id)
  | _, _ => none

def asStr : D → Option Str
  | .str x => some x
  | _ => none
def dJoin (x : Str) : D → Option D
  | .lst ys => (dStrs ys).bind fun zs => if (zs.map (·.length)).sum + zs.length * x.length ≤ 16777216 then mkStr (Txt.join x zs) else none
  | _ => none

def gets (fs : List (Str × D)) (f : Str) : Option D := fs.lookup f
inductive Fld where
  | marks | rows | shown
  deriving DecidableEq
def dFld : Fld → D → Option D
  | .marks, .prg h _ _ => some (.str h)
  | .rows, .prg _ ss _ => some (.tup ss)
  | .shown, .prg _ _ c => some (.str c)
  | _, _ => none

/-! ### expressions -/
inductive Tg where
  | one (i : Nat)
  | tup (is : List Nat)
mutual
inductive E where
  | lit (d : D) | var (i : Nat) | pk (i : Nat) | glob (x : Str) (d : D)
  | tup (es : List E) | lst (es : List E) | star (a : E)
  | bin (o : BO) (a b : E) | neg (a : E)
  | cmp (o : CO) (a b : E) | isN (neg : Bool) (a : E) | chain (o p : CO) (a b c : E)
  | and (a b : E) | or (a b : E) | not (a : E) | ite (c a b : E)
  | idx (a i : E) | slice (a : E) (lo hi : Option E)
  | fld (f : Fld) (a : E)
  | call (f : Nat) (es : List E)
  | blt (b : Blt) (es : List E)
  | isi (ts : List Ty) (a : E)
  | join (a e : E)
  | comp (own : List Nat) (tg : Tg) (src : Src) (ifs : Option E) (elt : E)
  | dcomp (own : List Nat) (tg : Tg) (src : Src) (key val : E)
  | dic0 | cidx (x : Str) (ys : List Str) (a : E)
  | cell (a : E)
  | cget (a i : E) | clen (a : E) | ccat (a b : E)
inductive Src where
  | val (e : E) | rng (es : List E) | enum (a : E) | zip (a b : E)
end

inductive Slot where
  | no
  | imm (d : D)
  | own (d : D)
abbrev Env' := List Slot
abbrev FS := List D → Sto → R D

def immAt (ρ : Env') (i : Nat) : Option D := match ρ[i]? with | some (.imm d) => some d | _ => none
def pkAt (ρ : Env') (i : Nat) : Option D := match ρ[i]? with | some (.imm d) => some d | some (.own d) => some d | _ => none
def setI (ρ : Env') (i : Nat) (d : D) : Env' := ρ.set i (.imm d)
def setAll (ρ : Env') : List Nat → List D → Env'
  | i :: is, d :: ds => setAll (setI ρ i d) is ds
  | _, _ => ρ
def bindTg (ρ : Env') : Tg → D → Option Env'
  | .one i, d => some (setI ρ i d)
  | .tup is, .tup ds => if ds.length = is.length then some (setAll ρ is ds) else none
  | .tup _, _ => none
def wipeE (ρ : Env') : List Nat → Env'
  | [] => ρ
  | i :: is => (wipeE ρ is).set i .no
/-- the items of what is walked -/
def items : D → Option (List D)
  | .lst xs | .tup xs => some xs
  | .scr ns => some (ns.map .int)
  | .str x => some (x.cps.toList.map fun c => .str ⟨#[c]⟩)
  | _ => none
def seqItems : D → Option (List D)
  | .lst xs | .tup xs => some xs
  | _ => none
def lstItems : D → Option (List D)
  | .lst xs => some xs
  | _ => none
def rngItems (lo : Int) (n : Nat) : List D := (List.range n).map fun (k : Nat) => .int (lo + k)
def dRng : List D → Option (List D)
  | [.int j] => if decide (-(2 ^ 62) ≤ j) && decide (j ≤ BIG) then some (rngItems 0 j.toNat) else none
  | [.int i, .int j] => if decide (-(2 ^ 62) ≤ i) && decide (i < 2 ^ 62) && decide (-(2 ^ 62) ≤ j) && decide (j < 2 ^ 62) && decide ((j - i).toNat ≤ BIG) then some (rngItems i (j - i).toNat) else none
  | _ => none
def enumFrom' : Nat → List D → List D
  | _, [] => []
  | k, d :: ds => .tup [.int k, d] :: enumFrom' (k + 1) ds
def zipD : List D → List D → List D
  | a :: as, b :: bs => .tup [a, b] :: zipD as bs
  | _, _ => []
def dNot (d : D) : Option D := d.truth.map fun b => .bl !b

/-- each item: the names bound, the tests, the element -/
def compLoop (f : D → Sto → R (Option D)) : List D → Sto → R (List D)
  | [], s => .ok [] s
  | d :: ds, s => (f d s).nox.bind fun o s => (compLoop f ds s).bind fun es s => .ok (match o with | some e => e :: es | none => es) s
/-- d[k] = v, k a text -/
def putD (kvs : List (D × D)) (k : Str) (v : D) : List (D × D) :=
  if kvs.any (fun kv => kv.1.eqv (.str k)) then kvs.map (fun kv => if kv.1.eqv (.str k) then (kv.1, v) else kv) else kvs ++ [(.str k, v)]
def dcompLoop (f : D → Sto → R (D × D)) (acc : List (D × D)) : List D → Sto → R (List (D × D))
  | [], s => .ok acc s
  | d :: ds, s => (f d s).nox.bind fun o s => match o with
    | (.str k, v) => dcompLoop f (putD acc k v) ds s
    | _ => .stuck
def dCidx (ys : List Str) : D → Option D
  | .str z => if ys.idxOf z < ys.length then some (.int (ys.idxOf z : Nat)) else none
  | _ => none

def isNb (n : Bool) : D → Bool
  | .non => !n
  | _ => n
/-- a new list as a cell -/
def newCell : D → Sto → R D
  | .lst xs, s => .ok (.ref s.length) (s ++ [.lst xs])
  | _, _ => .stuck
/-- lists that are cells -/
def cellAt (s : Sto) : D → Option (List D)
  | .ref n => (match s[n]? with
    | some (.lst xs) => some xs
    | _ => none)
  | _ => none
def cGet (s : Sto) (x : D) : D → Option D
  | .int i => (cellAt s x).bind fun xs => L2.atI xs i
  | _ => none
def cLen (s : Sto) (x : D) : Option D := (cellAt s x).map fun xs => .int xs.length
def cCat (s : Sto) (x : D) : D → Option D
  | .lst ys => (cellAt s x).bind fun xs => mkLst (xs ++ ys)
  | _ => none
def cSet (s : Sto) (x : D) : D → D → Option Sto
  | .int i, d => (match x with
    | .ref n => (cellAt s (.ref n)).bind fun xs => (L2.ixN xs.length i).map fun j => s.set n (.lst (xs.set j d))
    | _ => none)
  | _, _ => none
mutual
def evE (fn : Nat → FS) (ρ : Env') (e : E) (s : Sto) : R D := match e with
  | .lit d => .ok d s
  | .glob _ d => .ok d s
  | .var i => R.of (immAt ρ i) s
  | .pk i => R.of (pkAt ρ i) s
  | .tup es => (evEs fn ρ es s).bind fun ds s => R.of (mkTup ds) s
  | .lst es => (evEs fn ρ es s).bind fun ds s => R.of (mkLst ds) s
  | .bin o a b => (evE fn ρ a s).bind fun x s => (evE fn ρ b s).bind fun y s => R.of (dBin o x y) s
  | .star _ => .stuck
  | .neg a => (evE fn ρ a s).bind fun x s => match x with | .int i => .ok (.int (-i)) s | _ => .stuck
  | .cmp o a b => (evE fn ρ a s).bind fun x s => (evE fn ρ b s).bind fun y s => R.of ((dCmp o x y).map .bl) s
  | .isN n a => (evE fn ρ a s).bind fun x s => .ok (.bl (isNb n x)) s
  | .chain o p a b c => (evE fn ρ a s).bind fun x s => (evE fn ρ b s).bind fun y s => (R.of (dCmp o x y) s).bind fun t s =>
      if t then (evE fn ρ c s).bind fun z s => R.of ((dCmp p y z).map .bl) s else .ok (.bl false) s
  | .and a b => (evE fn ρ a s).bind fun x s => (R.of x.truth s).bind fun t s => if t then evE fn ρ b s else .ok x s
  | .or a b => (evE fn ρ a s).bind fun x s => (R.of x.truth s).bind fun t s => if t then .ok x s else evE fn ρ b s
  | .not a => (evE fn ρ a s).bind fun x s => R.of (dNot x) s
  | .ite c a b => (evE fn ρ c s).bind fun x s => (R.of x.truth s).bind fun t s => if t then evE fn ρ a s else evE fn ρ b s
  | .idx a i => (evE fn ρ a s).bind fun x s => (evE fn ρ i s).bind fun y s => R.of (dIdx x y) s
  | .slice a lo hi => (evE fn ρ a s).bind fun x s => (evO fn ρ lo s).bind fun l s => (evO fn ρ hi s).bind fun h s => R.of (dSlice x l h) s
  | .fld f a => (evE fn ρ a s).bind fun x s => R.of (dFld f x) s
  | .call f es => (evEs fn ρ es s).bind fun ds s => fn f ds s
  | .blt b es => (evEs fn ρ es s).bind fun ds s => R.of (dBlt b ds) s
  | .isi ts a => (evE fn ρ a s).bind fun x s => R.of (isTys ts x) s
  | .join a e => (evE fn ρ a s).bind fun x s => (R.of (asStr x) s).bind fun z s => (evE fn ρ e s).bind fun y s => R.of (dJoin z y) s
  | .comp own tg src ifs elt => (evSrc fn ρ src s).bind fun ds s => (compLoop (fun d s => (R.of (bindTg (wipeE ρ own) tg d) s).bind fun ρ' s => (evIf fn ρ' ifs s).bind fun t s =>
      if t then (evE fn ρ' elt s).bind fun e s => .ok (some e) s else .ok none s) ds s).bind fun es s => .ok (.lst es) s
  | .dcomp own tg src key val => (evSrc fn ρ src s).bind fun ds s => (dcompLoop (fun d s => (R.of (bindTg (wipeE ρ own) tg d) s).bind fun ρ' s =>
      (evE fn ρ' key s).bind fun k s => (evE fn ρ' val s).bind fun v s => .ok (k, v) s) [] ds s).bind fun kvs s => .ok (.dic kvs) s
  | .dic0 => .ok (.dic []) s
  | .cidx _ ys a => (evE fn ρ a s).bind fun x s => R.of (dCidx ys x) s
  | .cell a => (evE fn ρ a s).bind newCell
  | .cget a i => (evE fn ρ a s).bind fun x s => (evE fn ρ i s).bind fun y s => R.of (cGet s x y) s
  | .clen a => (evE fn ρ a s).bind fun x s => R.of (cLen s x) s
  | .ccat a b => (evE fn ρ a s).bind fun x s => (evE fn ρ b s).bind fun y s => R.of (cCat s x y) s
def evEs (fn : Nat → FS) (ρ : Env') (es : List E) (s : Sto) : R (List D) := match es with
  | [] => .ok [] s
  | .star a :: es => (evE fn ρ a s).bind fun x s => (R.of (seqItems x) s).bind fun xs s => (evEs fn ρ es s).bind fun ds s => .ok (xs ++ ds) s
  | e :: es => (evE fn ρ e s).bind fun d s => (evEs fn ρ es s).bind fun ds s => .ok (d :: ds) s
def evO (fn : Nat → FS) (ρ : Env') (es : Option E) (s : Sto) : R (Option Int) := match es with
  | none => .ok none s
  | some e => (evE fn ρ e s).bind fun d s => (R.of (asInt d) s).bind fun i s => .ok (some i) s
def evIf (fn : Nat → FS) (ρ : Env') (es : Option E) (s : Sto) : R Bool := match es with
  | none => .ok true s
  | some e => (evE fn ρ e s).bind fun d s => R.of d.truth s
def evSrc (fn : Nat → FS) (ρ : Env') (e : Src) (s : Sto) : R (List D) := match e with
  | .val e => (evE fn ρ e s).bind fun x s => R.of (items x) s
  | .rng es => (evEs fn ρ es s).bind fun ds s => R.of (dRng ds) s
  | .enum a => (evE fn ρ a s).bind fun x s => (R.of (lstItems x) s).bind fun ds s => .ok (enumFrom' 0 ds) s
  | .zip a b => (evE fn ρ a s).bind fun x s => (evE fn ρ b s).bind fun y s => (R.of (lstItems x) s).bind fun xs s => (R.of (lstItems y) s).bind fun ys s => .ok (zipD xs ys) s
end

/-! ### statements -/
inductive St where
  | asg (i : Nat) (e : E)
  | asgO (i : Nat) (e : E)
  | unp (is : List Nat) (e : E)
  | par (is : List (Bool × Nat)) (es : List E)
  | setI (i : Nat) (k e : E)
  | setK (i : Nat) (k e : E)
  | aug (i : Nat) (o : BO) (e : E)
  | app (i : Nat) (e : E)
  | exp (e : E)
  | ret (e : E)
  | retO (i : Nat)
  | retN
  | ite (c : E) (a b : List St)
  | for_ (tg : Tg) (src : Src) (body : List St)
  | pass
  | never
  | frz (i : Nat) (st : St)
  | whl (c : E) (body : List St)
  | cset (a k e : E)
inductive RS where
  | nx (ρ : Env') (s : Sto)
  | ret (d : D) (s : Sto)
  | exc (x : Exn) (ρ : Env') (s : Sto)
  | stuck
def RS.of {α : Type} (r : R α) (ρ : Env') (f : α → Sto → RS) : RS := match r with
  | .ok a s => f a s
  | .exc x s => .exc x ρ s
  | .stuck => .stuck
@[simp] theorem RS.of_ok {α : Type} (a : α) (s : Sto) (ρ : Env') (f : α → Sto → RS) : RS.of (.ok a s) ρ f = f a s := rfl
@[simp] theorem RS.of_exc {α : Type} (x : Exn) (s : Sto) (ρ : Env') (f : α → Sto → RS) : RS.of (.exc x s) ρ f = .exc x ρ s := rfl
@[simp] theorem RS.of_stuck {α : Type} (ρ : Env') (f : α → Sto → RS) : RS.of .stuck ρ f = .stuck := rfl
def RS.seq (r : RS) (f : Env' → Sto → RS) : RS := match r with
  | .nx ρ s => f ρ s
  | r => r
@[simp] theorem RS.seq_nx (ρ : Env') (s : Sto) (f : Env' → Sto → RS) : (RS.nx ρ s).seq f = f ρ s := rfl
@[simp] theorem RS.seq_ret (d : D) (s : Sto) (f : Env' → Sto → RS) : (RS.ret d s).seq f = .ret d s := rfl
@[simp] theorem RS.seq_exc (x : Exn) (ρ : Env') (s : Sto) (f : Env' → Sto → RS) : (RS.exc x ρ s).seq f = .exc x ρ s := rfl
@[simp] theorem RS.seq_stuck (f : Env' → Sto → RS) : RS.stuck.seq f = .stuck := rfl
def isFr : D → Bool
  | .lst _ | .dic _ => true
  | _ => false
def ownAt (ρ : Env') (i : Nat) : Option D := match ρ[i]? with | some (.own d) => some d | _ => none
def setO (ρ : Env') (i : Nat) (d : D) : Env' := ρ.set i (.own d)
/-- several names at once -/
def setPar (ρ : Env') : List (Bool × Nat) → List D → Option Env'
  | [], [] => some ρ
  | (o, i) :: is, d :: ds => if o && !isFr d then none else setPar (if o then setO ρ i d else setI ρ i d) is ds
  | _, _ => none
def lstOwn (ρ : Env') (i : Nat) : Option (List D) := match ρ[i]? with | some (.own (.lst xs)) => some xs | _ => none
def dicOwn (ρ : Env') (i : Nat) : Option (List (D × D)) := match ρ[i]? with | some (.own (.dic xs)) => some xs | _ => none
def dApp (xs : List D) (d : D) : Option D := if xs.length < BIG then some (.lst (xs ++ [d])) else none
def dSetI (xs : List D) : D → D → Option D
  | .int k, d => (L2.ixN xs.length k).map fun j => .lst (xs.set j d)
  | _, _ => none
def dSetK (kvs : List (D × D)) : D → D → Option D
  | .str k, d => if kvs.length < BIG then some (.dic (putD kvs k d)) else none
  | _, _ => none
def dAug : BO → D → D → Option D
  | .add, .int i, .int j => some (.int (i + j))
  | .mul, .int i, .int j => if small i || small j then some (.int (i * j)) else none
  | _, _, _ => none
def forLoop (f : D → Env' → Sto → RS) : List D → Env' → Sto → RS
  | [], ρ, s => .nx ρ s
  | d :: ds, ρ, s => (f d ρ s).seq (forLoop f ds)
def whlLoop (t : Env' → Sto → R Bool) (f : Env' → Sto → RS) : Nat → Env' → Sto → RS
  | 0, _, _ => .stuck
  | n + 1, ρ, s => RS.of (t ρ s) ρ fun b s => if b then (f ρ s).seq (whlLoop t f n) else .nx ρ s
mutual
def evS (fn : Nat → FS) (ρ : Env') (st : St) (s : Sto) : RS := match st with
  | .asg i e => RS.of (evE fn ρ e s) ρ fun d s => .nx (setI ρ i d) s
  | .asgO i e => RS.of (evE fn ρ e s) ρ fun d s => if isFr d then .nx (setO ρ i d) s else .stuck
  | .unp is e => RS.of (evE fn ρ e s) ρ fun d s => RS.of (R.of (bindTg ρ (.tup is) d) s) ρ fun ρ' s => .nx ρ' s
  | .par is es => RS.of (evEs fn ρ es s) ρ fun ds s => RS.of (R.of (setPar ρ is ds) s) ρ fun ρ' s => .nx ρ' s
  | .setI i k e => RS.of (R.of (lstOwn ρ i) s) ρ fun o s => RS.of (evE fn ρ e s) ρ fun d s => RS.of (evE fn ρ k s) ρ fun x s => RS.of (R.of (dSetI o x d) s) ρ fun o s => .nx (setO ρ i o) s
  | .setK i k e => RS.of (R.of (dicOwn ρ i) s) ρ fun o s => RS.of (evE fn ρ e s) ρ fun d s => RS.of (evE fn ρ k s) ρ fun x s => RS.of (R.of (dSetK o x d) s) ρ fun o s => .nx (setO ρ i o) s
  | .aug i o e => RS.of (R.of (immAt ρ i) s) ρ fun x s => RS.of (evE fn ρ e s) ρ fun d s => RS.of (R.of (dAug o x d) s) ρ fun r s => .nx (setI ρ i r) s
  | .app i e => RS.of (R.of (lstOwn ρ i) s) ρ fun xs s => RS.of (evE fn ρ e s) ρ fun d s => RS.of (R.of (dApp xs d) s) ρ fun o s => .nx (setO ρ i o) s
  | .exp e => RS.of (evE fn ρ e s) ρ fun _ s => .nx ρ s
  | .ret e => RS.of (evE fn ρ e s) ρ fun d s => .ret d s
  | .retO i => RS.of (R.of (ownAt ρ i) s) ρ fun d s => .ret d s
  | .retN => .ret .non s
  | .ite c a b => RS.of (evE fn ρ c s) ρ fun x s => RS.of (R.of x.truth s) ρ fun t s => if t then evSs fn ρ a s else evSs fn ρ b s
  | .for_ tg src body => RS.of (evSrc fn ρ src s) ρ fun ds s => forLoop (fun d ρ s => RS.of (R.of (bindTg ρ tg d) s) ρ fun ρ' s => evSs fn ρ' body s) ds ρ s
  | .pass => .nx ρ s
  | .never => .stuck
  | .frz i st => match ownAt ρ i with
    | some d => evS fn (setI ρ i d) st s
    | none => evS fn ρ st s
  | .whl c body => whlLoop (fun ρ s => (evE fn ρ c s).bind fun x s => R.of x.truth s) (fun ρ s => evSs fn ρ body s) BIG ρ s
  | .cset a k e => RS.of (evE fn ρ e s) ρ fun d s => RS.of (evE fn ρ a s) ρ fun x s => RS.of (evE fn ρ k s) ρ fun y s => RS.of (R.of (cSet s x y d) s) ρ fun s' _ => .nx ρ s'
def evSs (fn : Nat → FS) (ρ : Env') (sts : List St) (s : Sto) : RS := match sts with
  | [] => .nx ρ s
  | st :: sts => (evS fn ρ st s).seq fun ρ' s' => evSs fn ρ' sts s'
end
/-- a def's names at its start -/
def startE (n : Nat) (ds : List D) : Env' := ds.map .imm ++ List.replicate (n - ds.length) .no
/-- what a def gives -/
def evDef (fn : Nat → FS) (n : Nat) (body : List St) (ds : List D) (s : Sto) : R D := match evSs fn (startE n ds) body s with
  | .nx _ s => .ok .non s
  | .ret d s => .ok d s
  | .exc x _ s => .exc x s
  | .stuck => .stuck
end MP

/-! MP: a small evaluator over tree data, and its bridge to the layer. Part 0: data, what a value stands for, the states. -/
namespace MP
open PySem PySem.Spec PyProof.Rows L2

abbrev Sg := List (Option V)
/-- the program's classes -/
structure Cn where
  K : PySem.W.Frag
  cP : Addr
  cx : Nat → Addr
  cI : Nat → Addr

mutual
inductive Rep (C : Cn) (F : Hp) (L : List Addr) : V → D → Prop
  | non : Rep C F L .non .non
  | bl (b : Bool) : Rep C F L (.bl b) (.bl b)
  | int (i : Int) : Rep C F L (.int i) (.int i)
  | str (x : Str) : sOk x = true → Rep C F L (.str x) (.str x)
  | tup {a : Addr} {vs : List V} {ds : List D} : SqT C.K F a vs → vs.length ≤ sizeLine → RepAll C F L vs ds → Rep C F L (.ref a) (.tup ds)
  | lst {a : Addr} {vs : List V} {ds : List D} : F a = some (.lst vs) → vs.length ≤ sizeLine → RepAll C F L vs ds → Rep C F L (.ref a) (.lst ds)
  | dic {a : Addr} {kvs : List (Key × V)} {ds : List (D × D)} : F a = some (.dK kvs) → kvs.length ≤ sizeLine → RepKV C F L kvs ds → Rep C F L (.ref a) (.dic ds)
  | prg {a dx t : Addr} {h c : Str} {vs : List V} {ss : List D} : F a = some (.ins C.cP dx [("marks", .str h), ("rows", .ref t), ("shown", .str c)]) → SqT C.K F t vs → vs.length ≤ sizeLine → RepAll C F L vs ss →
      sOk h = true → sOk c = true → Rep C F L (.ref a) (.prg h ss c)
  | ref {n : Nat} {a : Addr} : L[n]? = some a → Rep C F L (.ref a) (.ref n)
  | scr {a : Addr} {ns : List Int} : SqL C.K F a (ns.map V.int) → ns.length ≤ sizeLine → Rep C F L (.ref a) (.scr ns)
inductive RepAll (C : Cn) (F : Hp) (L : List Addr) : List V → List D → Prop
  | nil : RepAll C F L [] []
  | cons {v : V} {vs : List V} {d : D} {ds : List D} : Rep C F L v d → RepAll C F L vs ds → RepAll C F L (v :: vs) (d :: ds)
inductive RepKV (C : Cn) (F : Hp) (L : List Addr) : List (Key × V) → List (D × D) → Prop
  | nil : RepKV C F L [] []
  | cons {x : Str} {v : V} {kvs : List (Key × V)} {d : D} {ds : List (D × D)} : sOk x = true → Rep C F L v d → RepKV C F L kvs ds → RepKV C F L ((.inr x, v) :: kvs) ((.str x, d) :: ds)
end

/-- the frozen part grows, the cells' places grow at the end -/
def Sub (F F' : Hp) : Prop := ∀ a o, F a = some o → F' a = some o
theorem Sub.refl (F : Hp) : Sub F F := fun _ _ h => h
theorem Sub.trans {F G H : Hp} (a : Sub F G) (b : Sub G H) : Sub F H := fun c o h => b c o (a c o h)
theorem Sub.rd {F F' : Hp} (s : Sub F F') {a : Addr} {u : HO} (h : Rd F a u) : Rd F' a u := by
  rcases h with h | ⟨o, h⟩
  · exact .inl (s _ _ h)
  · exact .inr ⟨o, s _ _ h⟩
theorem Sub.sqL {K : PySem.W.Frag} {F F' : Hp} (s : Sub F F') {a : Addr} {xs : List V} (h : SqL K F a xs) : SqL K F' a xs := h.imp s.rd id
theorem Sub.sqT {K : PySem.W.Frag} {F F' : Hp} (s : Sub F F') {a : Addr} {xs : List V} (h : SqT K F a xs) : SqT K F' a xs := h.imp s.rd id

section
variable {C : Cn} {F F' : Hp} {L L' : List Addr}
theorem pre_get {L L' : List Addr} (p : L <+: L') {n : Nat} {a : Addr} (h : L[n]? = some a) : L'[n]? = some a := by
  obtain ⟨m, rfl⟩ := p
  rw [List.getElem?_append_left (List.getElem?_eq_some_iff.mp h).1]; exact h
mutual
theorem Rep.up (s : Sub F F') (p : L <+: L') : ∀ {v : V} {d : D}, Rep C F L v d → Rep C F' L' v d
  | _, _, .non => .non
  | _, _, .bl b => .bl b
  | _, _, .int i => .int i
  | _, _, .str x h => .str x h
  | _, _, .tup h z r => .tup (s.sqT h) z (RepAll.up s p r)
  | _, _, .lst h z r => .lst (s _ _ h) z (RepAll.up s p r)
  | _, _, .dic h z r => .dic (s _ _ h) z (RepKV.up s p r)
  | _, _, .prg h t z r a b => .prg (s _ _ h) (s.sqT t) z (RepAll.up s p r) a b
  | _, _, .ref h => .ref (pre_get p h)
  | _, _, .scr h z => .scr (s.sqL h) z
theorem RepAll.up (s : Sub F F') (p : L <+: L') : ∀ {vs : List V} {ds : List D}, RepAll C F L vs ds → RepAll C F' L' vs ds
  | _, _, .nil => .nil
  | _, _, .cons h t => .cons (Rep.up s p h) (RepAll.up s p t)
theorem RepKV.up (s : Sub F F') (p : L <+: L') : ∀ {vs : List (Key × V)} {ds : List (D × D)}, RepKV C F L vs ds → RepKV C F' L' vs ds
  | _, _, .nil => .nil
  | _, _, .cons z h t => .cons z (Rep.up s p h) (RepKV.up s p t)
end
theorem RepAll.length : ∀ {vs : List V} {ds : List D}, RepAll C F L vs ds → vs.length = ds.length
  | _, _, .nil => rfl
  | _, _, .cons _ t => by simp [RepAll.length t]
theorem RepAll.get : ∀ {vs : List V} {ds : List D} {i : Nat} {d : D}, RepAll C F L vs ds → ds[i]? = some d → ∃ v, vs[i]? = some v ∧ Rep C F L v d
  | _, _, _, _, .nil, e => by simp at e
  | _, _, 0, _, .cons r _, e => by simp at e; subst e; exact ⟨_, rfl, r⟩
  | _, _, i + 1, d, .cons _ t, e => by
    obtain ⟨v, h1, h2⟩ := RepAll.get (i := i) (d := d) t (by simpa using e)
    exact ⟨v, by simpa using h1, h2⟩
theorem RepAll.get' : ∀ {vs : List V} {ds : List D} {i : Nat} {v : V}, RepAll C F L vs ds → vs[i]? = some v → ∃ d, ds[i]? = some d ∧ Rep C F L v d
  | _, _, _, _, .nil, e => by simp at e
  | _, _, 0, _, .cons r _, e => by simp at e; subst e; exact ⟨_, rfl, r⟩
  | _, _, i + 1, d, .cons _ t, e => by
    obtain ⟨v, h1, h2⟩ := RepAll.get' (i := i) (v := d) t (by simpa using e)
    exact ⟨v, by simpa using h1, h2⟩
theorem RepAll.append : ∀ {vs ws : List V} {ds es : List D}, RepAll C F L vs ds → RepAll C F L ws es → RepAll C F L (vs ++ ws) (ds ++ es)
  | _, _, _, _, .nil, s => s
  | _, _, _, _, .cons r t, s => .cons r (RepAll.append t s)
theorem RepAll.take : ∀ {vs : List V} {ds : List D} (n : Nat), RepAll C F L vs ds → RepAll C F L (vs.take n) (ds.take n)
  | _, _, 0, _ => .nil
  | _, _, _ + 1, .nil => .nil
  | _, _, n + 1, .cons r t => .cons r (RepAll.take n t)
theorem RepAll.drop : ∀ {vs : List V} {ds : List D} (n : Nat), RepAll C F L vs ds → RepAll C F L (vs.drop n) (ds.drop n)
  | _, _, 0, r => r
  | _, _, _ + 1, .nil => .nil
  | _, _, n + 1, .cons _ t => RepAll.drop n t
theorem RepAll.set {v : V} {d : D} (r : Rep C F L v d) : ∀ {vs : List V} {ds : List D} (i : Nat), RepAll C F L vs ds → RepAll C F L (vs.set i v) (ds.set i d)
  | _, _, _, .nil => .nil
  | _, _, 0, .cons _ t => .cons r t
  | _, _, i + 1, .cons q t => .cons q (RepAll.set r i t)
theorem RepAll.reverse : ∀ {vs : List V} {ds : List D}, RepAll C F L vs ds → RepAll C F L vs.reverse ds.reverse
  | _, _, .nil => .nil
  | _, _, .cons r t => by
    rw [List.reverse_cons, List.reverse_cons]
    exact (RepAll.reverse t).append (.cons r .nil)
theorem RepAll.eraseIdx : ∀ {vs : List V} {ds : List D} (i : Nat), RepAll C F L vs ds → RepAll C F L (vs.eraseIdx i) (ds.eraseIdx i)
  | _, _, _, .nil => by simpa using RepAll.nil
  | _, _, 0, .cons _ t => by simpa using t
  | _, _, i + 1, .cons q t => by simpa using RepAll.cons q (RepAll.eraseIdx i t)
theorem RepAll.insertIdx {v : V} {d : D} (r : Rep C F L v d) : ∀ {vs : List V} {ds : List D} (i : Nat), RepAll C F L vs ds → RepAll C F L (vs.insertIdx i v) (ds.insertIdx i d)
  | _, _, 0, t => by simpa using RepAll.cons r t
  | _, _, i + 1, .nil => by simpa using RepAll.nil
  | _, _, i + 1, .cons q t => by simpa using RepAll.cons q (RepAll.insertIdx r i t)
theorem RepAll.dropLast {vs : List V} {ds : List D} (r : RepAll C F L vs ds) : RepAll C F L vs.dropLast ds.dropLast := by
  rw [List.dropLast_eq_take, List.dropLast_eq_take, r.length]; exact r.take _
theorem RepAll.snoc {vs : List V} {ds : List D} {v : V} {d : D} (t : RepAll C F L vs ds) (r : Rep C F L v d) : RepAll C F L (vs ++ [v]) (ds ++ [d]) := t.append (.cons r .nil)
theorem RepKV.length : ∀ {vs : List (Key × V)} {ds : List (D × D)}, RepKV C F L vs ds → vs.length = ds.length
  | _, _, .nil => rfl
  | _, _, .cons _ _ t => by simp [RepKV.length t]
end

/-- a cell as it stands at a -/
inductive CellOk (C : Cn) (F : Hp) (L : List Addr) (H : Hp) (a : Addr) : Cell → Prop
  | lst {vs : List V} {ds : List D} : H a = some (.lst vs) → vs.length ≤ sizeLine → RepAll C F L vs ds → CellOk C F L H a (.lst ds)
  | ins {k : Nat} {dx : Addr} {fs : List (Str × V)} {gs : List (Str × D)} : H a = some (.ins (C.cI k) dx fs) → Paired (fun (p : Str × V) (q : Str × D) => p.1 = q.1 ∧ Rep C F L p.2 q.2) fs gs → fs.length ≤ 100 → CellOk C F L H a (.ins k gs)

/-- the state: what is frozen, where the cells stand -/
structure Ok (C : Cn) (F : Hp) (L : List Addr) (H : Hp) (S : Sto) : Prop where
  sub : Sub F H
  fl : ∀ a ∈ L, F a = none
  nd : L.Nodup
  len : L.length = S.length
  cells : ∀ (n : Nat) (c : Cell), S[n]? = some c → ∃ a, L[n]? = some a ∧ CellOk C F L H a c

/-- from one state to a later one -/
structure Ext (F : Hp) (L : List Addr) (H : Hp) (F' : Hp) (L' : List Addr) (H' : Hp) : Prop where
  ff : Sub F F'
  ll : L <+: L'
  keep : ∀ a o, H a = some o → a ∉ L → H' a = some o
  there : ∀ a, a ∈ L → H a ≠ none → H' a ≠ none
  nF : ∀ a o, F' a = some o → F a = some o ∨ H a = none
  nL : ∀ a, a ∈ L' → a ∈ L ∨ H a = none
theorem Ext.refl (F : Hp) (L : List Addr) (H : Hp) : Ext F L H F L H := ⟨Sub.refl F, List.prefix_refl L, fun _ _ h _ => h, fun _ _ h => h, fun _ _ h => .inl h, fun _ h => .inl h⟩
section
variable {F F1 F2 : Hp} {L L1 L2 : List Addr} {H H1 H2 : Hp}
theorem Ext.none_of (e : Ext F L H F1 L1 H1) {a : Addr} (h : H1 a = none) : H a = none := by
  by_cases ha : a ∈ L
  · cases q : H a with
    | none => rfl
    | some o => exact absurd h (e.there a ha (by rw [q]; simp))
  · cases q : H a with
    | none => rfl
    | some o => rw [e.keep a o q ha] at h; cases h
theorem Ext.trans (a : Ext F L H F1 L1 H1) (b : Ext F1 L1 H1 F2 L2 H2) : Ext F L H F2 L2 H2 where
  ff := a.ff.trans b.ff
  ll := a.ll.trans b.ll
  keep := fun x o h n => b.keep x o (a.keep x o h n) fun z => by
    rcases a.nL x z with z | z
    · exact n z
    · rw [h] at z; cases z
  there := fun x hx h => b.there x (a.ll.subset hx) (a.there x hx h)
  nF := fun x o h => by
    rcases b.nF x o h with z | z
    · exact a.nF x o z
    · exact .inr (a.none_of z)
  nL := fun x h => by
    rcases b.nL x h with z | z
    · exact a.nL x z
    · exact .inr (a.none_of z)
end

/-- a new object that stands in the heap and is known to nobody else -/
inductive Fr (C : Cn) (F : Hp) (L : List Addr) (H0 H : Hp) : V → D → Prop
  | lst {p : Addr} {vs : List V} {ds : List D} : H0 p = none → H p = some (.lst vs) → vs.length ≤ sizeLine → F p = none → p ∉ L → RepAll C F L vs ds → Fr C F L H0 H (.ref p) (.lst ds)
  | dic {p : Addr} {kvs : List (Key × V)} {ds : List (D × D)} : H0 p = none → H p = some (.dK kvs) → kvs.length ≤ sizeLine → F p = none → p ∉ L → RepKV C F L kvs ds → Fr C F L H0 H (.ref p) (.dic ds)
/-- a value that is looked at: its own object as it stands, what is in it frozen -/
inductive Pk (C : Cn) (F : Hp) (L : List Addr) (H : Hp) : V → D → Prop
  | rep {v : V} {d : D} : Rep C F L v d → Pk C F L H v d
  | lst {p : Addr} {vs : List V} {ds : List D} : H p = some (.lst vs) → p ∉ L → vs.length ≤ sizeLine → RepAll C F L vs ds → Pk C F L H (.ref p) (.lst ds)
  | dic {p : Addr} {kvs : List (Key × V)} {ds : List (D × D)} : H p = some (.dK kvs) → p ∉ L → kvs.length ≤ sizeLine → RepKV C F L kvs ds → Pk C F L H (.ref p) (.dic ds)
inductive Lv where
  | pk | rep | fr
def Vok (C : Cn) (F : Hp) (L : List Addr) (H0 H : Hp) : Lv → V → D → Prop
  | .pk, v, d => Pk C F L H v d
  | .rep, v, d => Rep C F L v d
  | .fr, v, d => if isFr d = true then Fr C F L H0 H v d else Rep C F L v d

/-! ### the frozen part takes an object -/
def fz (F : Hp) (p : Addr) (o : HO) : Hp := upd F p o
section
variable {C : Cn} {F : Hp} {L : List Addr} {H H0 : Hp} {S : Sto} {p : Addr} {o : HO}
theorem Sub.fz (n : F p = none) : Sub F (fz F p o) := fun a u h => by
  unfold MP.fz; rw [upd_ne (ne_of_none h n)]; exact h
theorem CellOk.up {F' : Hp} {L' : List Addr} {H' : Hp} {a : Addr} {c : Cell} (x : CellOk C F L H a c) (s : Sub F F') (l : L <+: L') (h : H' a = H a) : CellOk C F' L' H' a c := by
  cases x with
  | lst e z r => exact .lst (h.trans e) z (r.up s l)
  | ins e r z => exact .ins (h.trans e) (Paired.mapP r fun _ _ q => ⟨q.1, q.2.up s l⟩) z
/-- a tracked object that no cell holds is frozen -/
theorem Ok.freeze (k : Ok C F L H S) (h : H p = some o) (n : F p = none) (l : p ∉ L) : Ok C (fz F p o) L H S where
  sub := fun a u e => by
    by_cases ha : a = p
    · subst ha; unfold fz at e; rw [upd_same] at e; cases e; exact h
    · unfold fz at e; rw [upd_ne ha] at e; exact k.sub a u e
  fl := fun a ha => by
    have z : a ≠ p := fun e => l (e ▸ ha)
    unfold fz; rw [upd_ne z]; exact k.fl a ha
  nd := k.nd
  len := k.len
  cells := fun m c e => by
    obtain ⟨a, h1, h2⟩ := k.cells m c e
    exact ⟨a, h1, h2.up (Sub.fz n) (List.prefix_refl _) rfl⟩
theorem Ext.freeze {F1 : Hp} {L1 : List Addr} {H1 : Hp} (e : Ext F L H F1 L1 H1) (n : H p = none) (f : F1 p = none) : Ext F L H (fz F1 p o) L1 H1 where
  ff := e.ff.trans (Sub.fz f)
  ll := e.ll
  keep := e.keep
  there := e.there
  nF := fun a u h => by
    by_cases ha : a = p
    · subst ha; exact .inr n
    · unfold fz at h; rw [upd_ne ha] at h; exact e.nF a u h
  nL := e.nL
/-- a new object is laid, not frozen -/
theorem Ok.laid (k : Ok C F L H S) (n : H p = none) : Ok C F L (upd H p o) S where
  sub := fun a u e => by rw [upd_ne (ne_of_none (k.sub a u e) n)]; exact k.sub a u e
  fl := k.fl
  nd := k.nd
  len := k.len
  cells := fun m c e => by
    obtain ⟨a, h1, h2⟩ := k.cells m c e
    refine ⟨a, h1, h2.up (Sub.refl _) (List.prefix_refl _) ?_⟩
    have z : a ≠ p := by
      cases h2 with
      | lst q _ _ => exact ne_of_none q n
      | ins q _ _ => exact ne_of_none q n
    rw [upd_ne z]
theorem Ok.cell_some (k : Ok C F L H S) {a : Addr} (h : a ∈ L) : H a ≠ none := by
  obtain ⟨i, hi, e⟩ := List.getElem_of_mem h
  have hs : i < S.length := by rw [← k.len]; exact hi
  obtain ⟨b, h1, h2⟩ := k.cells i S[i] (List.getElem?_eq_getElem hs)
  have z : b = a := by rw [List.getElem?_eq_getElem hi, e] at h1; exact (Option.some.inj h1).symm
  subst z
  generalize S[i] = c at h2
  cases h2 with
  | lst q _ _ => rw [q]; simp
  | ins q _ _ => rw [q]; simp
theorem Ok.notL (k : Ok C F L H S) (n : H p = none) : p ∉ L := fun h => k.cell_some h n
theorem Ok.notF (k : Ok C F L H S) (n : H p = none) : F p = none := by
  cases q : F p with
  | none => rfl
  | some o => rw [k.sub p o q] at n; cases n
theorem Ext.laid {F1 : Hp} {L1 : List Addr} {H1 : Hp} (e : Ext F L H F1 L1 H1) (n : H1 p = none) : Ext F L H F1 L1 (upd H1 p o) where
  ff := e.ff
  ll := e.ll
  keep := fun a u h z => by rw [upd_ne (ne_of_none (e.keep a u h z) n)]; exact e.keep a u h z
  there := fun a h z => by
    by_cases ha : a = p
    · subst ha; rw [upd_same]; simp
    · rw [upd_ne ha]; exact e.there a h z
  nF := e.nF
  nL := e.nL
theorem Fr.freeze {F1 : Hp} {L1 : List Addr} {H1 : Hp} {v : V} {d : D} (x : Fr C F1 L1 H H1 v d) (k : Ok C F1 L1 H1 S) (e : Ext F L H F1 L1 H1) : ∃ F2, Ok C F2 L1 H1 S ∧ Ext F L H F2 L1 H1 ∧ Rep C F2 L1 v d := by
  cases x with
  | lst n h z f l r => exact ⟨_, k.freeze h f l, e.freeze n f, .lst upd_same z (r.up (Sub.fz f) (List.prefix_refl _))⟩
  | dic n h z f l r => exact ⟨_, k.freeze h f l, e.freeze n f, .dic upd_same z (r.up (Sub.fz f) (List.prefix_refl _))⟩
theorem Fr.pk {F1 : Hp} {L1 : List Addr} {H1 : Hp} {v : V} {d : D} (x : Fr C F1 L1 H H1 v d) : Pk C F1 L1 H1 v d := by
  cases x with
  | lst n h z f l r => exact .lst h l z r
  | dic n h z f l r => exact .dic h l z r
end

/-! ### the names of a frame -/
def SlotOk (C : Cn) (F : Hp) (L : List Addr) (H : Hp) : Slot → Option V → Prop
  | .no, _ => True
  | .imm d, x => ∃ v, x = some v ∧ Rep C F L v d
  | .own d, x => ∃ v, x = some v ∧ Fr C F L (fun _ => none) H v d
structure EnvOk (C : Cn) (F : Hp) (L : List Addr) (H : Hp) (ρ : Env') (σ : Sg) : Prop where
  len : ρ.length = σ.length
  slot : ∀ (i : Nat) (z : Slot) (x : Option V), ρ[i]? = some z → σ[i]? = some x → SlotOk C F L H z x
  sep : ∀ (i j : Nat) (d e : D) (v : V), ρ[i]? = some (.own d) → ρ[j]? = some (.own e) → σ[i]? = some (some v) → σ[j]? = some (some v) → i = j
section
variable {C : Cn} {F F1 : Hp} {L L1 : List Addr} {H H1 H0 : Hp} {S : Sto} {ρ : Env'} {σ : Sg}
theorem Fr.ext {v : V} {d : D} {H2 : Hp} (x : Fr C F L H2 H v d) (e : Ext F L H F1 L1 H1) : Fr C F1 L1 H2 H1 v d := by
  cases x with
  | @lst p vs ds n h z f l r =>
    refine .lst n (e.keep _ _ h l) z ?_ (fun q => ?_) (r.up e.ff e.ll)
    · cases q : F1 p with
      | none => rfl
      | some o =>
        rcases e.nF p o q with w | w
        · rw [f] at w; cases w
        · rw [h] at w; cases w
    · rcases e.nL p q with w | w
      · exact l w
      · rw [h] at w; cases w
  | @dic p vs ds n h z f l r =>
    refine .dic n (e.keep _ _ h l) z ?_ (fun q => ?_) (r.up e.ff e.ll)
    · cases q : F1 p with
      | none => rfl
      | some o =>
        rcases e.nF p o q with w | w
        · rw [f] at w; cases w
        · rw [h] at w; cases w
    · rcases e.nL p q with w | w
      · exact l w
      · rw [h] at w; cases w
theorem SlotOk.ext {z : Slot} {x : Option V} (h : SlotOk C F L H z x) (e : Ext F L H F1 L1 H1) : SlotOk C F1 L1 H1 z x := by
  cases z with
  | no => trivial
  | imm d => obtain ⟨v, q, r⟩ := h; exact ⟨v, q, r.up e.ff e.ll⟩
  | own d => obtain ⟨v, q, r⟩ := h; exact ⟨v, q, r.ext e⟩
theorem EnvOk.ext (h : EnvOk C F L H ρ σ) (e : Ext F L H F1 L1 H1) : EnvOk C F1 L1 H1 ρ σ := ⟨h.len, fun i z x a b => (h.slot i z x a b).ext e, h.sep⟩
theorem EnvOk.imm (h : EnvOk C F L H ρ σ) {i : Nat} {d : D} (e : ρ[i]? = some (.imm d)) : ∃ v, σ[i]? = some (some v) ∧ Rep C F L v d := by
  have hi : i < σ.length := by rw [← h.len]; exact (List.getElem?_eq_some_iff.mp e).1
  obtain ⟨v, q, r⟩ := h.slot i _ σ[i] e (List.getElem?_eq_getElem hi)
  exact ⟨v, by rw [List.getElem?_eq_getElem hi, q], r⟩
theorem EnvOk.own (h : EnvOk C F L H ρ σ) {i : Nat} {d : D} (e : ρ[i]? = some (.own d)) : ∃ v, σ[i]? = some (some v) ∧ Fr C F L (fun _ => none) H v d := by
  have hi : i < σ.length := by rw [← h.len]; exact (List.getElem?_eq_some_iff.mp e).1
  obtain ⟨v, q, r⟩ := h.slot i _ σ[i] e (List.getElem?_eq_getElem hi)
  exact ⟨v, by rw [List.getElem?_eq_getElem hi, q], r⟩
end
end MP

/-! MP: the readings of expressions, and the rules of the layer told by them. -/
namespace MP
open PySem PySem.Spec PyProof.Rows L2

/-- an exception's own dict -/
def XOk (C : Cn) (F : Hp) (L : List Addr) (H : Hp) (x : Exn) (dx : Option Addr) : Prop := match x.a with
  | none => True
  | some d => ∃ a f v, dx = some a ∧ H a = some (.xd [(f, v)]) ∧ Rep C F L v d
/-- what is wanted of a run -/
def Rn (C : Cn) (W : WX) (σ : Sg) (F : Hp) (L : List Addr) (H : Hp) {α : Type} (r : R α) (P : Hp → List Addr → Hp → Sto → α → Prop) : Prop := match r with
  | .ok a S' => ∀ F' L' H', Ext F L H F' L' H' → Ok C F' L' H' S' → P F' L' H' S' a
  | .exc x S' => ∀ F' L' H' dx, Ext F L H F' L' H' → Ok C F' L' H' S' → XOk C F' L' H' x dx → W (.ref (C.cx x.c)) dx σ H'
  | .stuck => False
section
variable {C : Cn} {W : WX} {σ : Sg} {F F1 : Hp} {L L1 : List Addr} {H H1 : Hp} {α β : Type}
theorem Rn.imp {r : R α} {P P' : Hp → List Addr → Hp → Sto → α → Prop} (h : Rn C W σ F L H r P) (f : ∀ F' L' H' S' a, Ext F L H F' L' H' → Ok C F' L' H' S' → P F' L' H' S' a → P' F' L' H' S' a) : Rn C W σ F L H r P' := by
  cases r with
  | ok a S' => exact fun F' L' H' e k => f _ _ _ _ _ e k (h _ _ _ e k)
  | exc x S' => exact h
  | stuck => exact h
theorem Rn.start {r : R α} {P : Hp → List Addr → Hp → Sto → α → Prop} (h : Rn C W σ F L H r P) (e : Ext F L H F1 L1 H1) : Rn C W σ F1 L1 H1 r P := by
  cases r with
  | ok a S' => exact fun F' L' H' e' k => h _ _ _ (e.trans e') k
  | exc x S' => exact fun F' L' H' dx e' k => h _ _ _ _ (e.trans e') k
  | stuck => exact h
theorem Rn.bind {r : R α} {f : α → Sto → R β} {P : Hp → List Addr → Hp → Sto → β → Prop} (h : Rn C W σ F L H (r.bind f) P) : Rn C W σ F L H r (fun F' L' H' S' a => Rn C W σ F' L' H' (f a S') P) := by
  cases r with
  | ok a S' => exact fun F' L' H' e k => Rn.start h e
  | exc x S' => exact h
  | stuck => exact h
theorem Rn.of {o : Option α} {S : Sto} {P : Hp → List Addr → Hp → Sto → α → Prop} (h : Rn C W σ F L H (R.of o S) P) : ∃ a, o = some a ∧ Rn C W σ F L H (.ok a S) P := by
  cases o with
  | none => exact False.elim h
  | some a => exact ⟨a, rfl, h⟩
theorem Rn.now {a : α} {S : Sto} {P : Hp → List Addr → Hp → Sto → α → Prop} (h : Rn C W σ F L H (.ok a S) P) (k : Ok C F L H S) : P F L H S a := h _ _ _ (Ext.refl _ _ _) k
end
def tE (C : Cn) (W : WX) (lv : Lv) (m : Env' → Sto → R D) : TE := fun σ H Q => ∃ F L S ρ, Ok C F L H S ∧ EnvOk C F L H ρ σ ∧
  Rn C W σ F L H (m ρ S) fun F' L' H' _ d => ∀ v, Vok C F' L' H H' lv v d → Q v H'
/-- a test -/
def tT (C : Cn) (W : WX) (m : Env' → Sto → R Bool) : TT := fun σ H Q => ∃ F L S ρ, Ok C F L H S ∧ EnvOk C F L H ρ σ ∧
  Rn C W σ F L H (m ρ S) fun _ _ H' _ b => Q b H'
/-- arguments -/
def tA (C : Cn) (W : WX) (m : Env' → Sto → R (List D)) : TA := fun σ H Q => ∃ F L S ρ, Ok C F L H S ∧ EnvOk C F L H ρ σ ∧
  Rn C W σ F L H (m ρ S) fun F' L' H' _ ds => ∀ vs, RepAll C F' L' vs ds → Q vs H'

theorem PE.imp {X : Cx} {e : Expr} {t t' : TE} (h : PE X e t) (f : ∀ σ H Q, t' σ H Q → t σ H Q) : PE X e t' := ⟨fun pins s σ H Q I q => h.run pins s σ H Q I (f σ H Q q)⟩
theorem PT.imp {X : Cx} {e : Expr} {t t' : TT} (h : PT X e t) (f : ∀ σ H Q, t' σ H Q → t σ H Q) : PT X e t' := ⟨fun pins s σ H Q I q => h.run pins s σ H Q I (f σ H Q q)⟩
theorem PA.imp {X : Cx} {e : List Expr} {t t' : TA} (h : PA X e t) (f : ∀ σ H Q, t' σ H Q → t σ H Q) : PA X e t' := ⟨fun pos pins s σ H Q I q => h.run pos pins s σ H Q I (f σ H Q q)⟩

section
variable {C : Cn} {W : WX} {X : Cx} {F F1 F2 : Hp} {L L1 : List Addr} {H H0 H1 : Hp} {S : Sto} {ρ : Env'} {σ : Sg} {lv : Lv}
theorem Pk.ext {v : V} {d : D} (x : Pk C F L H v d) (e : Ext F L H F1 L1 H1) : Pk C F1 L1 H1 v d := by
  cases x with
  | rep r => exact .rep (r.up e.ff e.ll)
  | lst h n z r => exact .lst (e.keep _ _ h n) (fun q => (e.nL _ q).elim n fun w => by rw [h] at w; cases w) z (r.up e.ff e.ll)
  | dic h n z r => exact .dic (e.keep _ _ h n) (fun q => (e.nL _ q).elim n fun w => by rw [h] at w; cases w) z (r.up e.ff e.ll)
theorem Vok.fr {v : V} {d : D} (x : Fr C F L H0 H v d) : Vok C F L H0 H .fr v d := by
  have h : isFr d = true := by cases x <;> rfl
  simpa [Vok, h] using x
theorem Vok.re {v : V} {d : D} (h : isFr d = false) (x : Rep C F L v d) : Vok C F L H0 H .fr v d := by simpa [Vok, h] using x
theorem Vok.weak {v : V} {d : D} {S : Sto} (x : Vok C F1 L1 H H1 .fr v d) (k : Ok C F1 L1 H1 S) (e : Ext F L H F1 L1 H1) : ∃ F2, Ok C F2 L1 H1 S ∧ Ext F L H F2 L1 H1 ∧ Rep C F2 L1 v d := by
  by_cases h : isFr d = true
  · have x' : Fr C F1 L1 H H1 v d := by simpa [Vok, h] using x
    exact x'.freeze k e
  · have x' : Rep C F1 L1 v d := by simpa [Vok, h] using x
    exact ⟨F1, k, e, x'⟩
theorem Fr.from {v : V} {d : D} (x : Fr C F L H1 H v d) (h : ∀ a, H1 a = none → H0 a = none) : Fr C F L H0 H v d := by
  cases x with
  | lst n a b c d e => exact .lst (h _ n) a b c d e
  | dic n a b c d e => exact .dic (h _ n) a b c d e
theorem Vok.from {v : V} {d : D} (x : Vok C F L H1 H lv v d) (h : ∀ a, H1 a = none → H0 a = none) : Vok C F L H0 H lv v d := by
  cases lv with
  | pk => exact x
  | rep => exact x
  | fr =>
    by_cases z : isFr d = true
    · have x' : Fr C F L H1 H v d := by simpa [Vok, z] using x
      exact Vok.fr (x'.from h)
    · have x' : Rep C F L v d := by simpa [Vok, z] using x
      exact Vok.re (by simpa using z) x'
theorem Vok.pk {v : V} {d : D} (x : Vok C F L H0 H lv v d) : Pk C F L H v d := by
  cases lv with
  | pk => exact x
  | rep => exact .rep x
  | fr =>
    by_cases h : isFr d = true
    · have x' : Fr C F L H0 H v d := by simpa [Vok, h] using x
      exact x'.pk
    · have x' : Rep C F L v d := by simpa [Vok, h] using x
      exact .rep x'
/-- what is known fresh may be frozen -/
theorem pe_fr {ex : Expr} {m : Env' → Sto → R D} (h : PE X ex (tE C W .fr m)) : PE X ex (tE C W .rep m) := by
  refine PE.imp h fun σ H Q ⟨F, L, S, ρ, k, en, q⟩ => ⟨F, L, S, ρ, k, en, ?_⟩
  cases e : m ρ S with
  | ok d S' =>
    rw [e] at q
    intro F' L' H' x k' v r
    obtain ⟨F2, k2, x2, r2⟩ := Vok.weak r k' x
    exact q _ _ _ x2 k2 _ r2
  | exc x S' => rw [e] at q; exact q
  | stuck => rw [e] at q; exact q
theorem pe_rep {ex : Expr} {m : Env' → Sto → R D} (h : PE X ex (tE C W .rep m)) : PE X ex (tE C W .pk m) :=
  PE.imp h fun σ H Q ⟨F, L, S, ρ, k, en, q⟩ => ⟨F, L, S, ρ, k, en, q.imp fun _ _ _ _ _ _ _ p v r => p v (.rep r)⟩
/-- other words for the same -/
theorem pe_cong {ex : Expr} {m m' : Env' → Sto → R D} (p : PE X ex (tE C W lv m)) (h : ∀ ρ s, m' ρ s = m ρ s) : PE X ex (tE C W lv m') :=
  PE.imp p fun σ H Q ⟨F, L, S, ρ, k, en, q⟩ => ⟨F, L, S, ρ, k, en, by rw [← h]; exact q⟩

/-! ### names, constants -/
theorem sizeBIG : sizeLine = BIG := by rw [sizeLine_eq]; rfl
theorem immAt_some {ρ : Env'} {i : Nat} {d : D} (h : immAt ρ i = some d) : ρ[i]? = some (.imm d) := by
  unfold immAt at h
  split at h
  · rename_i e; rw [e, Option.some.inj h]
  · cases h
theorem pkAt_some {ρ : Env'} {i : Nat} {d : D} (h : pkAt ρ i = some d) : ρ[i]? = some (.imm d) ∨ ρ[i]? = some (.own d) := by
  unfold pkAt at h
  split at h
  · rename_i e; rw [e, Option.some.inj h]; exact .inl rfl
  · rename_i e; rw [e, Option.some.inj h]; exact .inr rfl
  · cases h
theorem m_var {i : Nat} {x : Str} {pos : Pos} (h : PE X (.Name x pos) (tVar i)) : PE X (.Name x pos) (tE C W .rep fun ρ s => R.of (immAt ρ i) s) := by
  refine PE.imp h fun σ H Q ⟨F, L, S, ρ, k, en, q⟩ => ?_
  obtain ⟨d, e, q⟩ := q.of
  obtain ⟨v, h1, r⟩ := en.imm (immAt_some e)
  exact ⟨v, h1, q.now k v r⟩
theorem m_pk {i : Nat} {x : Str} {pos : Pos} (h : PE X (.Name x pos) (tVar i)) : PE X (.Name x pos) (tE C W .pk fun ρ s => R.of (pkAt ρ i) s) := by
  refine PE.imp h fun σ H Q ⟨F, L, S, ρ, k, en, q⟩ => ?_
  obtain ⟨d, e, q⟩ := q.of
  rcases pkAt_some e with e | e
  · obtain ⟨v, h1, r⟩ := en.imm e
    exact ⟨v, h1, q.now k v (.rep r)⟩
  · obtain ⟨v, h1, r⟩ := en.own e
    exact ⟨v, h1, q.now k v (r.pk)⟩
/-- a constant value -/
theorem m_const {e : Expr} {v : V} {d : D} (h : PE X e (tC v)) (r : ∀ F L, Rep C F L v d) (hd : isFr d = false) : PE X e (tE C W .fr fun _ s => .ok d s) :=
  PE.imp h fun σ H Q ⟨F, L, S, ρ, k, en, q⟩ => q.now k v (Vok.re hd (r F L))
theorem m_glob {e : Expr} {v : V} {d : D} (h : PE X e (tC v)) (r : ∀ F L, Rep C F L v d) : PE X e (tE C W .rep fun _ s => .ok d s) :=
  PE.imp h fun σ H Q ⟨F, L, S, ρ, k, en, q⟩ => q.now k v (r F L)

/-! ### two-place operations -/
/-- what a rule must give: at each state, from what the two values are, the answer -/
def OpOk (C : Cn) (lv : Lv) (r : R2) (f : D → D → Option D) : Prop := ∀ (F : Hp) (L : List Addr) (H : Hp) (S : Sto) (x y : V) (a b d : D) (Q : VK), Ok C F L H S → Pk C F L H x a → Pk C F L H y b → f a b = some d →
  (∀ F' L' H' v, Ext F L H F' L' H' → Ok C F' L' H' S → Vok C F' L' H H' lv v d → Q v H') → r x y H Q
theorem m_op {op : Operator} {a b : Expr} {pos : Pos} {r : R2} {f : D → D → Option D} {ma mb : Env' → Sto → R D} (ho : OpR X (binaryOp op) r) (hf : OpOk C lv r f) (ha : PE X a (tE C W .pk ma)) (hb : PE X b (tE C W .pk mb)) :
    PE X (.BinOp a op b pos) (tE C W lv fun ρ s => (ma ρ s).bind fun x s => (mb ρ s).bind fun y s => R.of (f x y) s) := by
  refine PE.imp (pe_op ho ha hb) fun σ H Q ⟨F, L, S, ρ, k, en, q⟩ => ⟨F, L, S, ρ, k, en, q.bind.imp fun F1 L1 H1 S1 x e1 k1 q1 v1 r1 => ?_⟩
  refine ⟨F1, L1, S1, ρ, k1, en.ext e1, q1.bind.imp fun F2 L2 H2 S2 y e2 k2 q2 v2 r2 => ?_⟩
  obtain ⟨d, hd, q2⟩ := q2.of
  exact hf _ _ _ _ _ _ _ _ _ _ k2 (Pk.ext r1 e2) r2 hd fun F' L' H' v e k' r => q2 _ _ _ e k' v (r.from fun a h => (e1.trans e2).none_of h)
theorem m_cmpR {op : CmpOp} {a b : Expr} {pos : Pos} {r : R2} {f : D → D → Option D} {ma mb : Env' → Sto → R D} (ho : OpR X (compareOp op) r) (hm : behindInMarks op b = false) (hf : OpOk C lv r f) (ha : PE X a (tE C W .pk ma)) (hb : PE X b (tE C W .pk mb)) :
    PE X (.Compare a [op] [b] pos) (tE C W lv fun ρ s => (ma ρ s).bind fun x s => (mb ρ s).bind fun y s => R.of (f x y) s) := by
  refine PE.imp (pe_cmpR ho ha hb hm) fun σ H Q ⟨F, L, S, ρ, k, en, q⟩ => ⟨F, L, S, ρ, k, en, q.bind.imp fun F1 L1 H1 S1 x e1 k1 q1 v1 r1 => ?_⟩
  refine ⟨F1, L1, S1, ρ, k1, en.ext e1, q1.bind.imp fun F2 L2 H2 S2 y e2 k2 q2 v2 r2 => ?_⟩
  obtain ⟨d, hd, q2⟩ := q2.of
  exact hf _ _ _ _ _ _ _ _ _ _ k2 (Pk.ext r1 e2) r2 hd fun F' L' H' v e k' r => q2 _ _ _ e k' v (r.from fun a h => (e1.trans e2).none_of h)
end
end MP

/-! MP: operators by values. -/
namespace MP
open PySem PySem.Spec PyProof.Rows L2

/-! ### plain data -/
mutual
def D.pd : D → PyData
  | .non => .none
  | .bl b => .bool b
  | .int i => .int i
  | .str x => .str x
  | .tup xs => .tuple (D.pds xs)
  | .lst xs => .list (D.pds xs)
  | _ => .none
def D.pds : List D → List PyData
  | [] => []
  | x :: xs => D.pd x :: D.pds xs
end
mutual
theorem D.plain_mono : ∀ {n m : Nat} {d : D}, n ≤ m → D.plain n d = true → D.plain m d = true
  | _, _, .non, _, _ | _, _, .bl _, _, _ | _, _, .int _, _, _ | _, _, .str _, _, _ => by simp [D.plain]
  | 0, _, .tup _, _, h | 0, _, .lst _, _, h => by simp [D.plain] at h
  | n + 1, m, .tup xs, l, h => by
    obtain ⟨m, rfl⟩ : ∃ k, m = k + 1 := ⟨m - 1, by omega⟩
    simp only [D.plain] at h ⊢
    exact D.plains_mono (by omega) h
  | n + 1, m, .lst xs, l, h => by
    obtain ⟨m, rfl⟩ : ∃ k, m = k + 1 := ⟨m - 1, by omega⟩
    simp only [D.plain] at h ⊢
    exact D.plains_mono (by omega) h
  | _, _, .dic _, _, h | _, _, .prg _ _ _, _, h | _, _, .ref _, _, h => by simp [D.plain] at h
theorem D.plains_mono : ∀ {n m : Nat} {d : List D}, n ≤ m → D.plains n d = true → D.plains m d = true
  | _, _, [], _, _ => by simp [D.plains]
  | n, m, x :: xs, l, h => by
    simp only [D.plains, Bool.and_eq_true] at h ⊢
    exact ⟨D.plain_mono l h.1, D.plains_mono l h.2⟩
end
mutual
theorem pd_depth : ∀ {n : Nat} {d : D}, D.plain n d = true → d.pd.depth ≤ n
  | _, .non, _ | _, .bl _, _ | _, .int _, _ | _, .str _, _ => by simp [D.pd, PyData.depth]
  | 0, .tup _, h | 0, .lst _, h => by simp [D.plain] at h
  | n + 1, .tup xs, h => by
    simp only [D.plain] at h
    simp only [D.pd, PyData.depth]
    have := pds_depth h; omega
  | n + 1, .lst xs, h => by
    simp only [D.plain] at h
    simp only [D.pd, PyData.depth]
    have := pds_depth h; omega
  | _, .dic _, h | _, .prg _ _ _, h | _, .ref _, h | _, .scr _, h => by simp [D.plain] at h
theorem pds_depth : ∀ {n : Nat} {ds : List D}, D.plains n ds = true → PyData.depthAll (D.pds ds) ≤ n
  | _, [], _ => by simp [D.pds, PyData.depthAll]
  | n, x :: xs, h => by
    simp only [D.plains, Bool.and_eq_true] at h
    simp only [D.pds, PyData.depthAll]
    have h1 := pd_depth h.1
    have h2 := pds_depth h.2
    omega
end
mutual
theorem pd_eqv : ∀ {n m : Nat} {a b : D}, D.plain n a = true → D.plain m b = true → PyData.eqv a.pd b.pd = a.eqv b
  | n, m, a, b, h, h' => by
    cases a <;> cases b <;> first
      | (simp [D.plain] at h; done)
      | (simp [D.plain] at h'; done)
      | (simp [D.pd, D.eqv, PyData.eqv]; done)
      | (rename_i xs ys
         cases n with
         | zero => simp [D.plain] at h
         | succ n =>
           cases m with
           | zero => simp [D.plain] at h'
           | succ m =>
             simp only [D.plain] at h h'
             simp only [D.pd, D.eqv, PyData.eqv]
             exact pds_eqv h h')
theorem pds_eqv : ∀ {n m : Nat} {a b : List D}, D.plains n a = true → D.plains m b = true → PyData.eqvAll (D.pds a) (D.pds b) = D.eqvs a b
  | _, _, [], [], _, _ => by simp [D.pds, D.eqvs, PyData.eqvAll]
  | _, _, [], _ :: _, _, _ => by simp [D.pds, D.eqvs, PyData.eqvAll]
  | _, _, _ :: _, [], _, _ => by simp [D.pds, D.eqvs, PyData.eqvAll]
  | n, m, x :: xs, y :: ys, h, h' => by
    simp only [D.plains, Bool.and_eq_true] at h h'
    simp only [D.pds, D.eqvs, PyData.eqvAll]
    rw [pd_eqv h.1 h'.1, pds_eqv h.2 h'.2]
end
theorem sOk_len {x : Str} (h : sOk x = true) : x.length ≤ sizeLine := by
  unfold sOk at h
  simp only [Bool.and_eq_true, decide_eq_true_eq] at h
  rw [sizeBIG]; exact h.1
theorem sOk_ok {x : Str} (h : sOk x = true) : PyData.strOk x = true := by
  unfold sOk at h
  simp only [Bool.and_eq_true, decide_eq_true_eq] at h
  exact h.2
section
variable {C : Cn} {F : Hp} {L : List Addr} {H H0 : Hp} {S : Sto}
mutual
theorem Rep.canLay : ∀ {n : Nat} {v : V} {d : D}, Rep C F L v d → D.plain n d = true → d.pd.canLay0 = true
  | _, _, _, .non, _ => by simp [D.pd, PyData.canLay0]
  | _, _, _, .bl _, _ => by simp [D.pd, PyData.canLay0]
  | _, _, _, .int _, _ => by simp [D.pd, PyData.canLay0]
  | _, _, _, .str x h, _ => by simp only [D.pd, PyData.canLay0]; exact sOk_ok h
  | 0, _, _, .tup _ _ _, h => by simp [D.plain] at h
  | 0, _, _, .lst _ _ _, h => by simp [D.plain] at h
  | n + 1, _, _, .tup _ _ r, h => by simp only [D.plain] at h; simp only [D.pd, PyData.canLay0]; exact RepAll.canLay r h
  | n + 1, _, _, .lst _ _ r, h => by simp only [D.plain] at h; simp only [D.pd, PyData.canLay0]; exact RepAll.canLay r h
  | _, _, _, .dic _ _ _, h => by simp [D.plain] at h
  | _, _, _, .prg _ _ _ _ _ _, h => by simp [D.plain] at h
  | _, _, _, .scr _ _, h => by simp [D.plain] at h
  | _, _, _, .ref _, h => by simp [D.plain] at h
theorem RepAll.canLay : ∀ {n : Nat} {v : List V} {d : List D}, RepAll C F L v d → D.plains n d = true → PyData.canLayAll0 (D.pds d) = true
  | _, _, _, .nil, _ => by simp [D.pds, PyData.canLayAll0]
  | _, _, _, .cons r t, h => by
    simp only [D.plains, Bool.and_eq_true] at h
    simp only [D.pds, PyData.canLayAll0, Bool.and_eq_true]
    exact ⟨Rep.canLay r h.1, RepAll.canLay t h.2⟩
end
mutual
theorem Rep.dp (s : Sub F H) : ∀ {n : Nat} {v : V} {d : D}, Rep C F L v d → D.plain n d = true → Dp C.K H v d.pd
  | _, _, _, .non, _ => by simp only [D.pd]; exact .non
  | _, _, _, .bl _, _ => by simp only [D.pd]; exact .bl _
  | _, _, _, .int _, _ => by simp only [D.pd]; exact .int _
  | _, _, _, .str x h, _ => by simp only [D.pd]; exact .str _
  | 0, _, _, .tup _ _ _, h => by simp [D.plain] at h
  | 0, _, _, .lst _ _ _, h => by simp [D.plain] at h
  | n + 1, _, _, .tup q _ r, h => by simp only [D.plain] at h; simp only [D.pd]; exact .tup (s.sqT q) (RepAll.dp s r h)
  | n + 1, _, _, .lst q _ r, h => by simp only [D.plain] at h; simp only [D.pd]; exact .lst (SqL.of (s _ _ q)) (RepAll.dp s r h)
  | _, _, _, .dic _ _ _, h => by simp [D.plain] at h
  | _, _, _, .prg _ _ _ _ _ _, h => by simp [D.plain] at h
  | _, _, _, .scr _ _, h => by simp [D.plain] at h
  | _, _, _, .ref _, h => by simp [D.plain] at h
theorem RepAll.dp (s : Sub F H) : ∀ {n : Nat} {v : List V} {d : List D}, RepAll C F L v d → D.plains n d = true → DpAll C.K H v (D.pds d)
  | _, _, _, .nil, _ => by simp only [D.pds]; exact .nil
  | _, _, _, .cons r t, h => by
    simp only [D.plains, Bool.and_eq_true] at h
    simp only [D.pds]
    exact .cons (Rep.dp s r h.1) (RepAll.dp s t h.2)
end
theorem Pk.dp (s : Sub F H) {n : Nat} {v : V} {d : D} (x : Pk C F L H v d) (h : D.plain n d = true) : Dp C.K H v d.pd ∧ d.pd.canLay0 = true := by
  cases x with
  | rep r => exact ⟨r.dp s h, r.canLay h⟩
  | lst q _ z r =>
    cases n with
    | zero => simp [D.plain] at h
    | succ n =>
      simp only [D.plain] at h
      simp only [D.pd, PyData.canLay0]
      exact ⟨.lst (SqL.of q) (r.dp s h), r.canLay h⟩
  | dic _ _ _ _ => simp [D.plain] at h
theorem Pk.shaped (s : Sub F H) {v : V} {d : D} (x : Pk C F L H v d) (h : D.plain 64 d = true) : Dp C.K H v d.pd ∧ SeqAt.shaped d.pd = true := by
  obtain ⟨h1, h2⟩ := x.dp s h
  refine ⟨h1, ?_⟩
  unfold SeqAt.shaped
  rw [h2, Bool.true_and]
  exact decide_eq_true (pd_depth h)
/-! ### what a value is, by its tree -/
theorem Pk.int {v : V} {i : Int} (x : Pk C F L H v (.int i)) : v = .int i := by
  cases x with
  | rep r => cases r; rfl
theorem Pk.bl {v : V} {b : Bool} (x : Pk C F L H v (.bl b)) : v = .bl b := by
  cases x with
  | rep r => cases r; rfl
theorem Pk.non {v : V} (x : Pk C F L H v .non) : v = .non := by
  cases x with
  | rep r => cases r; rfl
theorem Pk.str {v : V} {z : Str} (x : Pk C F L H v (.str z)) : v = .str z ∧ sOk z = true := by
  cases x with
  | rep r => cases r with | str _ h => exact ⟨rfl, h⟩
theorem Pk.tup (s : Sub F H) {v : V} {ds : List D} (x : Pk C F L H v (.tup ds)) : ∃ a vs, v = .ref a ∧ SqT C.K H a vs ∧ vs.length ≤ sizeLine ∧ RepAll C F L vs ds ∧ Rep C F L v (.tup ds) := by
  cases x with
  | rep r => cases id r with | tup h z q => exact ⟨_, _, rfl, s.sqT h, z, q, r⟩
theorem Pk.list (s : Sub F H) {v : V} {ds : List D} (x : Pk C F L H v (.lst ds)) : ∃ a vs, v = .ref a ∧ H a = some (.lst vs) ∧ vs.length ≤ sizeLine ∧ RepAll C F L vs ds := by
  cases x with
  | rep r => cases r with | lst h z q => exact ⟨_, _, rfl, s _ _ h, z, q⟩
  | lst h _ z q => exact ⟨_, _, rfl, h, z, q⟩
theorem Pk.dict (s : Sub F H) {v : V} {ds : List (D × D)} (x : Pk C F L H v (.dic ds)) : ∃ a kvs, v = .ref a ∧ H a = some (.dK kvs) ∧ kvs.length ≤ sizeLine ∧ RepKV C F L kvs ds := by
  cases x with
  | rep r => cases r with | dic h z q => exact ⟨_, _, rfl, s _ _ h, z, q⟩
  | dic h _ z q => exact ⟨_, _, rfl, h, z, q⟩
theorem Pk.nonI (x : V) (d : D) (h : Pk C F L H x d) : decide (x = .non) = isNb false d := by
  cases h with
  | rep r => cases r <;> simp [isNb]
  | lst _ _ _ _ => simp [isNb]
  | dic _ _ _ _ => simp [isNb]
theorem isNb_not (d : D) : (!isNb false d) = isNb true d := by cases d <;> rfl
end

section
variable {C : Cn} {W : WX} {X : Cx} {lv : Lv}
theorem OpOk.or {r r' : R2} {f f' : D → D → Option D} (h : OpOk C lv r f) (h' : OpOk C lv r' f') : OpOk C lv (fun x y H Q => r x y H Q ∨ r' x y H Q) (fun a b => (f a b).or (f' a b)) := by
  intro F L H S x y a b d Q k px py e q
  dsimp only at e
  cases e1 : f a b with
  | some d1 =>
    rw [e1] at e
    simp only [Option.some_or, Option.some.injEq] at e
    subst e
    exact .inl (h F L H S x y a b _ Q k px py e1 q)
  | none =>
    rw [e1, Option.none_or] at e
    exact .inr (h' F L H S x y a b _ Q k px py e q)
theorem OpOk.cong {r : R2} {f f' : D → D → Option D} (h : OpOk C lv r f) (e : ∀ a b d, f' a b = some d → f a b = some d) : OpOk C lv r f' := fun F L H S x y a b d Q k px py z q => h F L H S x y a b d Q k px py (e a b d z) q
/-! ### two ints -/
def fI (g : Int → Int → Option D) : D → D → Option D
  | .int i, .int j => g i j
  | _, _ => none
theorem fI_some {g : Int → Int → Option D} {a b d : D} (h : fI g a b = some d) : ∃ i j, a = .int i ∧ b = .int j ∧ g i j = some d := by
  unfold fI at h
  split at h
  · exact ⟨_, _, rfl, rfl, h⟩
  · cases h
theorem ok_I {P : Int → Int → Prop} {g : Int → Int → V} {f : Int → Int → Option D} (h : ∀ i j d, f i j = some d → P i j ∧ (∀ F L, Rep C F L (g i j) d) ∧ isFr d = false) : OpOk C .fr (rI P g) (fI f) := by
  intro F L H S x y a b d Q k px py e q
  obtain ⟨i, j, rfl, rfl, e⟩ := fI_some e
  obtain ⟨h1, h2, h3⟩ := h i j d e
  exact ⟨i, j, px.int, py.int, h1, q F L H _ (Ext.refl _ _ _) k (Vok.re h3 (h2 F L))⟩
theorem ok_I0 {g : Int → Int → V} {f : Int → Int → Option D} (h : ∀ i j d, f i j = some d → (∀ F L, Rep C F L (g i j) d) ∧ isFr d = false) : OpOk C .fr (rI0 g) (fI f) := by
  intro F L H S x y a b d Q k px py e q
  obtain ⟨i, j, rfl, rfl, e⟩ := fI_some e
  obtain ⟨h2, h3⟩ := h i j d e
  exact ⟨i, j, px.int, py.int, q F L H _ (Ext.refl _ _ _) k (Vok.re h3 (h2 F L))⟩
theorem ok_II {g : Int → Int → Int} : OpOk C .fr (rI0 fun i j => .int (g i j)) (fI fun i j => some (.int (g i j))) := ok_I0 fun i j d e => by cases e; exact ⟨fun _ _ => .int _, rfl⟩
theorem ok_IB {g : Int → Int → Bool} : OpOk C .fr (rI0 fun i j => .bl (g i j)) (fI fun i j => some (.bl (g i j))) := ok_I0 fun i j d e => by cases e; exact ⟨fun _ _ => .bl _, rfl⟩
/-! ### two texts -/
def fS (g : Str → Str → Option D) : D → D → Option D
  | .str i, .str j => g i j
  | _, _ => none
theorem fS_some {g : Str → Str → Option D} {a b d : D} (h : fS g a b = some d) : ∃ i j, a = .str i ∧ b = .str j ∧ g i j = some d := by
  unfold fS at h
  split at h
  · exact ⟨_, _, rfl, rfl, h⟩
  · cases h
theorem ok_SB {g : Str → Str → Bool} : OpOk C .fr (fun x y H Q => ∃ i j, x = .str i ∧ y = .str j ∧ Q (.bl (g i j)) H) (fS fun i j => some (.bl (g i j))) := by
  intro F L H S x y a b d Q k px py e q
  obtain ⟨i, j, rfl, rfl, e⟩ := fS_some e
  cases e
  exact ⟨i, j, px.str.1, py.str.1, q F L H _ (Ext.refl _ _ _) k (Vok.re rfl (.bl _))⟩
theorem mkStr_some {x : Str} {d : D} (h : mkStr x = some d) : d = .str x ∧ sOk x = true := by
  unfold mkStr at h
  split at h
  · cases h; exact ⟨rfl, by assumption⟩
  · cases h
theorem length_app (x y : Str) : (x ++ y).length = x.length + y.length := by
  show (x.cps ++ y.cps).size = x.cps.size + y.cps.size
  simp
theorem ok_addS : OpOk C .fr (fun x y H Q => ∃ i j, x = .str i ∧ y = .str j ∧ i.length + j.length ≤ sizeLine ∧ Q (.str (i ++ j)) H) (fS fun i j => mkStr (i ++ j)) := by
  intro F L H S x y a b d Q k px py e q
  obtain ⟨i, j, rfl, rfl, e⟩ := fS_some e
  obtain ⟨rfl, h⟩ := mkStr_some e
  exact ⟨i, j, px.str.1, py.str.1, by rw [← length_app]; exact sOk_len h, q F L H _ (Ext.refl _ _ _) k (Vok.re rfl (.str _ h))⟩
/-! ### a new object -/
theorem new_tup {F : Hp} {L : List Addr} {H : Hp} {S : Sto} {vs : List V} {ds : List D} {p : Addr} (k : Ok C F L H S) (n : H p = none) (z : vs.length ≤ sizeLine) (r : RepAll C F L vs ds) :
    ∃ F', Ext F L H F' L (upd H p (.tup vs)) ∧ Ok C F' L (upd H p (.tup vs)) S ∧ Rep C F' L (.ref p) (.tup ds) :=
  ⟨fz F p (.tup vs), ((Ext.refl F L H).laid n).freeze n (k.notF n), (k.laid n).freeze upd_same (k.notF n) (k.notL n), .tup (.inl (.inl upd_same)) z (r.up (Sub.fz (k.notF n)) (List.prefix_refl _))⟩
theorem new_lst {F : Hp} {L : List Addr} {H : Hp} {S : Sto} {vs : List V} {ds : List D} {p : Addr} (k : Ok C F L H S) (n : H p = none) (z : vs.length ≤ sizeLine) (r : RepAll C F L vs ds) :
    Ext F L H F L (upd H p (.lst vs)) ∧ Ok C F L (upd H p (.lst vs)) S ∧ Fr C F L H (upd H p (.lst vs)) (.ref p) (.lst ds) :=
  ⟨(Ext.refl F L H).laid n, k.laid n, .lst n upd_same z (k.notF n) (k.notL n) r⟩
theorem mkLst_some {xs : List D} {d : D} (h : mkLst xs = some d) : d = .lst xs ∧ xs.length ≤ sizeLine := by
  unfold mkLst at h
  split at h
  · cases h; exact ⟨rfl, by rw [sizeBIG]; assumption⟩
  · cases h
theorem mkTup_some {xs : List D} {d : D} (h : mkTup xs = some d) : d = .tup xs ∧ xs.length ≤ sizeLine := by
  unfold mkTup at h
  split at h
  · cases h; exact ⟨rfl, by rw [sizeBIG]; assumption⟩
  · cases h
theorem ok_cat : OpOk C .fr rCat (fun a b => match a, b with | .lst x, .lst y => mkLst (x ++ y) | _, _ => none) := by
  intro F L H S x y a b d Q k px py e q
  dsimp only at e
  split at e
  · obtain ⟨p, vs, rfl, h1, z1, r1⟩ := px.list k.sub
    obtain ⟨p', vs', rfl, h2, z2, r2⟩ := py.list k.sub
    obtain ⟨rfl, z⟩ := mkLst_some e
    have e1 := r1.length
    have e2 := r2.length
    rw [List.length_append] at z
    refine ⟨p, p', vs, vs', rfl, rfl, h1, h2, by omega, fun p n => ?_⟩
    obtain ⟨x1, x2, x3⟩ := new_lst k n (by rw [List.length_append]; omega) (r1.append r2)
    exact q _ _ _ _ x1 x2 (Vok.fr x3)
  · cases e
theorem ok_catT : OpOk C .fr (rCatA C.K) (fun a b => match a, b with | .tup x, .tup y => mkTup (x ++ y) | _, _ => none) := by
  intro F L H S x y a b d Q k px py e q
  dsimp only at e
  split at e
  · obtain ⟨p, vs, rfl, h1, z1, r1, rr1⟩ := px.tup k.sub
    obtain ⟨p', vs', rfl, h2, z2, r2, rr2⟩ := py.tup k.sub
    obtain ⟨rfl, z⟩ := mkTup_some e
    have e1 := r1.length
    have e2 := r2.length
    rw [List.length_append] at z
    refine ⟨p, p', vs, vs', rfl, rfl, h1, h2, by omega, fun n => ?_, fun n n' => ?_, fun _ _ p n => ?_⟩
    · subst n
      cases r1
      exact q F L H _ (Ext.refl _ _ _) k (Vok.re rfl (by simpa using rr2))
    · subst n'
      cases r2
      exact q F L H _ (Ext.refl _ _ _) k (Vok.re rfl (by simpa using rr1))
    · obtain ⟨F', x1, x2, x3⟩ := new_tup k n (by rw [List.length_append]; omega) (r1.append r2)
      exact q _ _ _ _ x1 x2 (Vok.re rfl x3)
  · cases e
/-! ### the tables of operators -/
def opOf : BO → Operator
  | .add => .Add | .sub => .Sub | .mul => .Mult | .fdiv => .FloorDiv | .mod => .Mod | .pow => .Pow
theorem bin_ok (o : BO) (hK : X.K = C.K) : ∃ r, OpR X (binaryOp (opOf o)) r ∧ OpOk C .fr r (dBin o) := by
  cases o with
  | add =>
    refine ⟨_, op_add.or (op_add_str.or (op_cat.or op_catA)), ?_⟩
    rw [hK]
    refine OpOk.cong (ok_II.or (ok_addS.or (ok_cat.or ok_catT))) fun a b d e => ?_
    cases a <;> cases b <;> simp_all [dBin, fI, fS]
  | sub => exact ⟨_, op_sub, OpOk.cong ok_II fun a b d e => by cases a <;> cases b <;> simp_all [dBin, fI]⟩
  | mul =>
    refine ⟨_, op_mul, OpOk.cong (ok_I (f := fun i j => if small i || small j then some (.int (i * j)) else none) fun i j d e => ?_) fun a b d e => by cases a <;> cases b <;> simp_all [dBin, fI]⟩
    split at e
    · rename_i h
      cases e
      refine ⟨?_, fun _ _ => .int _, rfl⟩
      simp only [small, Bool.or_eq_true, Bool.and_eq_true, decide_eq_true_eq] at h
      exact h
    · cases e
  | fdiv =>
    refine ⟨_, op_fdiv, OpOk.cong (ok_I (f := fun i j => if decide (0 < j) && decide (j < 1073741824) then some (.int (i / j)) else none) fun i j d e => ?_) fun a b d e => by cases a <;> cases b <;> simp_all [dBin, fI]⟩
    split at e
    · rename_i h
      cases e
      refine ⟨?_, fun _ _ => .int _, rfl⟩
      simp only [Bool.and_eq_true, decide_eq_true_eq] at h
      exact h
    · cases e
  | mod =>
    refine ⟨_, op_mod, OpOk.cong (ok_I (f := fun i j => if decide (0 < j) then some (.int (i % j)) else none) fun i j d e => ?_) fun a b d e => by cases a <;> cases b <;> simp_all [dBin, fI]⟩
    split at e
    · rename_i h
      cases e
      refine ⟨?_, fun _ _ => .int _, rfl⟩
      simp only [decide_eq_true_eq] at h
      exact h
    · cases e
  | pow =>
    refine ⟨_, op_pow, OpOk.cong (ok_I (f := fun i j => if decide (0 ≤ j) && decide (j ≤ 1000000) && decide (i.natAbs < 2 ^ 64) then some (.int (i ^ j.toNat)) else none) fun i j d e => ?_) fun a b d e => by cases a <;> cases b <;> simp_all [dBin, fI]⟩
    split at e
    · rename_i h
      cases e
      refine ⟨?_, fun _ _ => .int _, rfl⟩
      simp only [Bool.and_eq_true, decide_eq_true_eq] at h
      exact ⟨h.1.1, h.1.2, h.2⟩
    · cases e
/-! ### comparisons -/
theorem ok_eqD : OpOk C .fr (rEqD C.K) (fun a b => if a.plain 64 && b.plain 64 then some (.bl (a.eqv b)) else none) := by
  intro F L H S x y a b d Q k px py e q
  dsimp only at e
  split at e
  · rename_i h
    simp only [Bool.and_eq_true] at h
    cases e
    obtain ⟨h1, h2⟩ := px.shaped k.sub h.1
    obtain ⟨h3, h4⟩ := py.shaped k.sub h.2
    refine ⟨_, _, h1, h3, h2, h4, ?_⟩
    rw [pd_eqv h.1 h.2]
    exact q F L H _ (Ext.refl _ _ _) k (Vok.re rfl (.bl _))
  · cases e
theorem ok_neD : OpOk C .fr (rNeD C.K) (fun a b => if a.plain 64 && b.plain 64 then some (.bl (!a.eqv b)) else none) := by
  intro F L H S x y a b d Q k px py e q
  dsimp only at e
  split at e
  · rename_i h
    simp only [Bool.and_eq_true] at h
    cases e
    obtain ⟨h1, h2⟩ := px.shaped k.sub h.1
    obtain ⟨h3, h4⟩ := py.shaped k.sub h.2
    refine ⟨_, _, h1, h3, h2, h4, ?_⟩
    rw [pd_eqv h.1 h.2]
    exact q F L H _ (Ext.refl _ _ _) k (Vok.re rfl (.bl _))
  · cases e
theorem any_pds {n m : Nat} {x : D} (h : D.plain n x = true) : ∀ {ys : List D}, D.plains m ys = true → ((D.pds ys).any fun z => PyData.eqv z x.pd) = ys.any fun y => y.eqv x
  | [], _ => rfl
  | y :: ys, h' => by
    simp only [D.plains, Bool.and_eq_true] at h'
    simp only [D.pds, List.any_cons]
    rw [pd_eqv h'.1 h, any_pds h h'.2]
theorem in_list {F : Hp} {L : List Addr} {H : Hp} {S : Sto} {x y : V} {a : D} {ys : List D} (k : Ok C F L H S) (px : Pk C F L H x a) (py : Pk C F L H y (.lst ys)) (h : a.plain 63 = true) (h' : D.plains 63 ys = true) :
    Dp C.K H x a.pd ∧ Dp C.K H y (.list (D.pds ys)) ∧ SeqAt.shaped a.pd = true ∧ SeqAt.shaped (.list (D.pds ys)) = true := by
  obtain ⟨h1, h2⟩ := px.shaped k.sub (D.plain_mono (by decide) h)
  have hy : D.plain 64 (.lst ys) = true := by simpa [D.plain] using h'
  obtain ⟨h3, h4⟩ := py.shaped k.sub hy
  simp only [D.pd] at h3 h4
  exact ⟨h1, h3, h2, h4⟩
theorem ok_inD : OpOk C .fr (rInD C.K) (fun a b => match b with | .lst ys => if a.plain 63 && D.plains 63 ys then some (.bl (ys.any fun y => y.eqv a)) else none | _ => none) := by
  intro F L H S x y a b d Q k px py e q
  dsimp only at e
  split at e
  · split at e
    · rename_i h
      simp only [Bool.and_eq_true] at h
      cases e
      obtain ⟨h1, h2, h3, h4⟩ := in_list k px py h.1 h.2
      refine ⟨_, _, h1, h2, h3, h4, ?_⟩
      rw [any_pds h.1 h.2]
      exact q F L H _ (Ext.refl _ _ _) k (Vok.re rfl (.bl _))
    · cases e
  · cases e
theorem ok_ninD : OpOk C .fr (rNotInD C.K) (fun a b => match b with | .lst ys => if a.plain 63 && D.plains 63 ys then some (.bl (!(ys.any fun y => y.eqv a))) else none | _ => none) := by
  intro F L H S x y a b d Q k px py e q
  dsimp only at e
  split at e
  · split at e
    · rename_i h
      simp only [Bool.and_eq_true] at h
      cases e
      obtain ⟨h1, h2, h3, h4⟩ := in_list k px py h.1 h.2
      refine ⟨_, _, h1, h2, h3, h4, ?_⟩
      rw [any_pds h.1 h.2]
      exact q F L H _ (Ext.refl _ _ _) k (Vok.re rfl (.bl _))
    · cases e
  · cases e
theorem flat_rep {F : Hp} {L : List Addr} {v : V} {d : D} (r : Rep C F L v d) (h : d.flat = true) : flatV v = true := by
  cases r <;> simp_all [D.flat, flatV]
theorem flat_eq {F : Hp} {L : List Addr} {F' : Hp} {L' : List Addr} {v w : V} {d e : D} (r : Rep C F L v d) (h : d.flat = true) (r' : Rep C F' L' w e) (h' : e.flat = true) : eqV v w = d.eqv e := by
  cases r <;> (first | (simp [D.flat] at h; done) | cases r') <;> (first | (simp [D.flat] at h'; done) | simp [eqV, D.eqv])
theorem flats {F : Hp} {L : List Addr} : ∀ {vs : List V} {ds : List D}, RepAll C F L vs ds → ds.all D.flat = true → vs.all flatV = true
  | _, _, .nil, _ => rfl
  | _, _, .cons r t, h => by
    simp only [List.all_cons, Bool.and_eq_true] at h ⊢
    exact ⟨flat_rep r h.1, flats t h.2⟩
theorem inV_eq {F : Hp} {L : List Addr} {x : V} {a : D} (r : Rep C F L x a) (h : a.flat = true) : ∀ {vs : List V} {ds : List D}, RepAll C F L vs ds → ds.all D.flat = true → inV x vs = ds.any fun y => y.eqv a
  | _, _, .nil, _ => rfl
  | _, _, .cons r' t, h' => by
    simp only [List.all_cons, Bool.and_eq_true] at h'
    have ih := inV_eq r h t h'.2
    unfold inV at ih ⊢
    simp only [List.any_cons]
    rw [flat_eq r' h'.1 r h, ih]
theorem Pk.flat {F : Hp} {L : List Addr} {H : Hp} {v : V} {d : D} (x : Pk C F L H v d) (h : d.flat = true) : Rep C F L v d := by
  cases x with
  | rep r => exact r
  | lst _ _ _ _ => simp [D.flat] at h
  | dic _ _ _ _ => simp [D.flat] at h
theorem ok_inT (neg : Bool) : OpOk C .fr (rIn C.K neg) (fun a b => match b with | .tup ys => if a.flat && ys.all D.flat then some (.bl (if neg then !(ys.any fun y => y.eqv a) else ys.any fun y => y.eqv a)) else none | _ => none) := by
  intro F L H S x y a b d Q k px py e q
  dsimp only at e
  split at e
  · split at e
    · rename_i h
      simp only [Bool.and_eq_true] at h
      cases e
      obtain ⟨p, vs, rfl, h1, z1, r1, _⟩ := py.tup k.sub
      refine ⟨p, vs, rfl, .inr h1, flat_rep (px.flat h.1) h.1, flats r1 h.2, ?_⟩
      rw [inV_eq (px.flat h.1) h.1 r1 h.2]
      exact q F L H _ (Ext.refl _ _ _) k (Vok.re rfl (.bl _))
    · cases e
  · cases e
def cmpOf : CO → CmpOp
  | .eq => .Eq | .ne => .NotEq | .lt => .Lt | .le => .LtE | .gt => .Gt | .ge => .GtE | .in_ => .In | .nin => .NotIn
theorem cmp_ok (o : CO) (hK : X.K = C.K) (hu : X.A.units + 65 < cLine) : ∃ r, OpR X (compareOp (cmpOf o)) r ∧ OpOk C .fr r (fun a b => (dCmp o a b).map .bl) := by
  have hu0 : X.A.units + 64 < cLine := by omega
  cases o with
  | eq =>
    refine ⟨_, op_eqD hu0, ?_⟩
    rw [hK]
    exact OpOk.cong ok_eqD fun a b d e => by simp only [dCmp] at e; split at e <;> simp_all
  | ne =>
    refine ⟨_, op_neD hu0, ?_⟩
    rw [hK]
    exact OpOk.cong ok_neD fun a b d e => by simp only [dCmp] at e; split at e <;> simp_all
  | lt => exact ⟨_, op_lt.or op_lt_str, OpOk.cong (ok_IB.or ok_SB) fun a b d e => by cases a <;> cases b <;> simp_all [dCmp, fI, fS]⟩
  | le => exact ⟨_, op_le.or op_le_str, OpOk.cong (ok_IB.or ok_SB) fun a b d e => by cases a <;> cases b <;> simp_all [dCmp, fI, fS]⟩
  | gt => exact ⟨_, op_gt.or op_gt_str, OpOk.cong (ok_IB.or ok_SB) fun a b d e => by cases a <;> cases b <;> simp_all [dCmp, fI, fS]⟩
  | ge => exact ⟨_, op_ge.or op_ge_str, OpOk.cong (ok_IB.or ok_SB) fun a b d e => by cases a <;> cases b <;> simp_all [dCmp, fI, fS]⟩
  | in_ =>
    refine ⟨_, op_in_str.or ((op_inD hu).or op_in_seq), ?_⟩
    rw [hK]
    refine OpOk.cong (ok_SB.or (ok_inD.or (ok_inT false))) fun a b d e => ?_
    cases b with
    | lst ys =>
      have e' : (if a.plain 63 && D.plains 63 ys then some (.bl (ys.any fun y => y.eqv a)) else none) = some d := by
        have : dCmp .in_ a (.lst ys) = if a.plain 63 && D.plains 63 ys then some (ys.any fun y => y.eqv a) else none := by cases a <;> rfl
        rw [this] at e; split at e <;> simp_all
      cases a <;> simp_all [fS]
    | tup ys =>
      have e' : (if a.flat && ys.all D.flat then some (.bl (ys.any fun y => y.eqv a)) else none) = some d := by
        have : dCmp .in_ a (.tup ys) = if a.flat && ys.all D.flat then some (ys.any fun y => y.eqv a) else none := by cases a <;> rfl
        rw [this] at e; split at e <;> simp_all
      cases a <;> simp_all [fS]
    | _ => cases a <;> simp_all [dCmp, fS]
  | nin =>
    refine ⟨_, op_notIn_str.or ((op_notInD hu).or op_notIn_seq), ?_⟩
    rw [hK]
    refine OpOk.cong (ok_SB.or (ok_ninD.or (ok_inT true))) fun a b d e => ?_
    cases b with
    | lst ys =>
      have e' : (if a.plain 63 && D.plains 63 ys then some (.bl (!(ys.any fun y => y.eqv a))) else none) = some d := by
        have : dCmp .nin a (.lst ys) = if a.plain 63 && D.plains 63 ys then some (!(ys.any fun y => y.eqv a)) else none := by cases a <;> rfl
        rw [this] at e; split at e <;> simp_all
      cases a <;> simp_all [fS]
    | tup ys =>
      have e' : (if a.flat && ys.all D.flat then some (.bl (!(ys.any fun y => y.eqv a))) else none) = some d := by
        have : dCmp .nin a (.tup ys) = if a.flat && ys.all D.flat then some (!(ys.any fun y => y.eqv a)) else none := by cases a <;> rfl
        rw [this] at e; split at e <;> simp_all
      cases a <;> simp_all [fS]
    | _ => cases a <;> simp_all [dCmp, fS]
end
end MP

/-! MP: rules of expressions. -/
namespace MP
open PySem PySem.Spec PyProof.Rows L2
section
variable {C : Cn} {W : WX} {X : Cx} {lv : Lv} {a b c : Expr} {pos : Pos} {ma mb mc : Env' → Sto → R D}

theorem m_neg (ha : PE X a (tE C W .pk ma)) : PE X (.UnaryOp .USub a pos) (tE C W .fr fun ρ s => (ma ρ s).bind fun x s => match x with | .int i => .ok (.int (-i)) s | _ => .stuck) := by
  refine PE.imp (pe_un un_neg ha) fun σ H Q ⟨F, L, S, ρ, k, en, q⟩ => ⟨F, L, S, ρ, k, en, q.bind.imp fun F1 L1 H1 S1 x e1 k1 q1 v1 r1 => ?_⟩
  split at q1
  · exact ⟨_, r1.int, q1.now k1 _ (Vok.re rfl (.int _))⟩
  · exact False.elim q1
theorem m_isN {j : Nat} {p2 : Pos} (ha : PE X a (tE C W .pk ma)) : PE X (.Compare a [.Is] [.Constant .none j p2] pos) (tE C W .fr fun ρ s => (ma ρ s).bind fun x s => .ok (.bl (isNb false x)) s) := by
  refine PE.imp (pe_cmp (pc_isN ha)) fun σ H Q ⟨F, L, S, ρ, k, en, q⟩ => ⟨F, L, S, ρ, k, en, q.bind.imp fun F1 L1 H1 S1 x e1 k1 q1 v1 r1 => ?_⟩
  show Q (.bl (decide (v1 = .non))) H1
  rw [Pk.nonI v1 x r1]
  exact q1.now k1 _ (Vok.re rfl (.bl _))
theorem m_notN {j : Nat} {p2 : Pos} (ha : PE X a (tE C W .pk ma)) : PE X (.Compare a [.IsNot] [.Constant .none j p2] pos) (tE C W .fr fun ρ s => (ma ρ s).bind fun x s => .ok (.bl (isNb true x)) s) := by
  refine PE.imp (pe_cmp (pc_notN ha)) fun σ H Q ⟨F, L, S, ρ, k, en, q⟩ => ⟨F, L, S, ρ, k, en, q.bind.imp fun F1 L1 H1 S1 x e1 k1 q1 v1 r1 => ?_⟩
  show Q (.bl (!decide (v1 = .non))) H1
  rw [Pk.nonI v1 x r1, isNb_not]
  exact q1.now k1 _ (Vok.re rfl (.bl _))
/-! ### truth -/
theorem tru_pk {F : Hp} {L : List Addr} {H : Hp} {S : Sto} {v : V} {d : D} {t : Bool} (k : Ok C F L H S) (x : Pk C F L H v d) (h : d.truth = some t) : TruV C.K v H t := by
  cases d with
  | non => rw [x.non]; simp [D.truth] at h; simp [TruV, h]
  | bl b => rw [x.bl]; simp [D.truth] at h; simp [TruV, h]
  | int i => rw [x.int]; simp [D.truth] at h; simp [TruV, ← h]
  | str z =>
    rw [x.str.1]
    simp only [D.truth, Option.some.injEq] at h
    exact ⟨sOk_len x.str.2, h.symm⟩
  | tup ds =>
    obtain ⟨a, vs, rfl, h1, _, r, _⟩ := x.tup k.sub
    simp only [D.truth, Option.some.injEq] at h
    refine .inr (.inl ⟨vs, h1, ?_⟩)
    rw [← h]
    cases r <;> rfl
  | lst ds =>
    obtain ⟨a, vs, rfl, h1, _, r⟩ := x.list k.sub
    simp only [D.truth, Option.some.injEq] at h
    refine .inl ⟨vs, SqL.of h1, ?_⟩
    rw [← h]
    cases r <;> rfl
  | dic ds =>
    obtain ⟨a, vs, rfl, h1, _, r⟩ := x.dict k.sub
    simp only [D.truth, Option.some.injEq] at h
    refine .inr (.inr ⟨vs, h1, ?_⟩)
    rw [← h]
    cases r <;> rfl
  | prg _ _ _ => simp [D.truth] at h
  | ref _ => simp [D.truth] at h
  | scr _ => simp [D.truth] at h
theorem tru_at {σ : Sg} {F : Hp} {L : List Addr} {H : Hp} {S : Sto} {v : V} {d : D} {β : Type} {f : Bool → Sto → R β} {P : Hp → List Addr → Hp → Sto → β → Prop} (k : Ok C F L H S) (x : Pk C F L H v d) (q : Rn C W σ F L H ((R.of d.truth S).bind f) P) : ∃ t, TruV C.K v H t ∧ Rn C W σ F L H (f t S) P := by
  obtain ⟨t, h, q⟩ := q.bind.of
  exact ⟨t, tru_pk k x h, q.now k⟩
theorem m_and {rest : List Expr} (hK : X.K = C.K) (ha : PE X a (tE C W lv ma)) (hb : PE X (.BoolOp .And (b :: rest) pos) (tE C W lv mb)) :
    PE X (.BoolOp .And (a :: b :: rest) pos) (tE C W lv fun ρ s => (ma ρ s).bind fun x s => (R.of x.truth s).bind fun t s => if t then mb ρ s else .ok x s) := by
  refine PE.imp (pe_andT ha hb) fun σ H Q ⟨F, L, S, ρ, k, en, q⟩ => ⟨F, L, S, ρ, k, en, q.bind.imp fun F1 L1 H1 S1 x e1 k1 q1 v1 r1 => ?_⟩
  obtain ⟨t, h, q1⟩ := tru_at k1 r1.pk q1
  refine ⟨t, by rw [hK]; exact h, ?_⟩
  cases t with
  | true => exact iteT ⟨F1, L1, S1, ρ, k1, en.ext e1, q1.imp fun F' L' H' S' d e2 k2 p v r => p v (r.from fun a h => e1.none_of h)⟩
  | false => exact iteF (q1.now k1 _ r1)
theorem m_or {rest : List Expr} (hK : X.K = C.K) (ha : PE X a (tE C W lv ma)) (hb : PE X (.BoolOp .Or (b :: rest) pos) (tE C W lv mb)) :
    PE X (.BoolOp .Or (a :: b :: rest) pos) (tE C W lv fun ρ s => (ma ρ s).bind fun x s => (R.of x.truth s).bind fun t s => if t then .ok x s else mb ρ s) := by
  refine PE.imp (pe_orT ha hb) fun σ H Q ⟨F, L, S, ρ, k, en, q⟩ => ⟨F, L, S, ρ, k, en, q.bind.imp fun F1 L1 H1 S1 x e1 k1 q1 v1 r1 => ?_⟩
  obtain ⟨t, h, q1⟩ := tru_at k1 r1.pk q1
  refine ⟨t, by rw [hK]; exact h, ?_⟩
  cases t with
  | true => exact iteT (q1.now k1 _ r1)
  | false => exact iteF ⟨F1, L1, S1, ρ, k1, en.ext e1, q1.imp fun F' L' H' S' d e2 k2 p v r => p v (r.from fun a h => e1.none_of h)⟩
theorem m_not (hK : X.K = C.K) (ha : PE X a (tE C W .pk ma)) : PE X (.UnaryOp .Not a pos) (tE C W .fr fun ρ s => (ma ρ s).bind fun x s => R.of (dNot x) s) := by
  refine PE.imp (pe_notT ha) fun σ H Q ⟨F, L, S, ρ, k, en, q⟩ => ⟨F, L, S, ρ, k, en, q.bind.imp fun F1 L1 H1 S1 x e1 k1 q1 v1 r1 => ?_⟩
  obtain ⟨d, h, q1⟩ := q1.of
  unfold dNot at h
  cases ht : x.truth with
  | none => rw [ht] at h; cases h
  | some t =>
    rw [ht] at h
    cases h
    exact ⟨t, by rw [hK]; exact tru_pk k1 r1 ht, q1.now k1 _ (Vok.re rfl (.bl _))⟩
/-! ### tests -/
theorem pt_cong {e : Expr} {m m' : Env' → Sto → R Bool} (p : PT X e (tT C W m)) (h : ∀ ρ s, m' ρ s = m ρ s) : PT X e (tT C W m') :=
  PT.imp p fun σ H Q ⟨F, L, S, ρ, k, en, q⟩ => ⟨F, L, S, ρ, k, en, by rw [← h]; exact q⟩
/-- a test by the value's truth -/
def tst (m : Env' → Sto → R D) : Env' → Sto → R Bool := fun ρ s => (m ρ s).bind fun x s => R.of x.truth s
theorem m_test (hK : X.K = C.K) (ha : PE X a (tE C W .pk ma)) (he : ∀ whole, isTrue a X.env whole = (do let v ← whole; standAt a.pos; holding [v] (truthy v))) : PT X a (tT C W (tst ma)) := by
  refine PT.imp (pt_truth ha he) fun σ H Q ⟨F, L, S, ρ, k, en, q⟩ => ⟨F, L, S, ρ, k, en, q.bind.imp fun F1 L1 H1 S1 x e1 k1 q1 v1 r1 => ?_⟩
  obtain ⟨t, h, q1⟩ := q1.of
  exact ⟨t, by rw [hK]; exact tru_pk k1 r1 h, q1.now k1⟩
theorem pw_imp {e : Expr} {t t' : TT} (h : PW X e t) (f : ∀ σ H Q, t' σ H Q → t σ H Q) : PW X e t' := ⟨fun whole pins s σ H Q I q => h.run whole pins s σ H Q I (f σ H Q q)⟩
theorem tT.and {m n : Env' → Sto → R Bool} {σ : Sg} {H : Hp} {Q : Bool → Hp → Prop} (h : tT C W (fun ρ s => (m ρ s).bind fun t s => if t then n ρ s else .ok false s) σ H Q) : tAnd (tT C W m) (tT C W n) σ H Q := by
  obtain ⟨F, L, S, ρ, k, en, q⟩ := h
  refine ⟨F, L, S, ρ, k, en, q.bind.imp fun F1 L1 H1 S1 t e1 k1 q1 => ?_⟩
  cases t with
  | true => exact iteT ⟨F1, L1, S1, ρ, k1, en.ext e1, q1⟩
  | false => exact iteF (q1.now k1)
theorem tT.or {m n : Env' → Sto → R Bool} {σ : Sg} {H : Hp} {Q : Bool → Hp → Prop} (h : tT C W (fun ρ s => (m ρ s).bind fun t s => if t then .ok true s else n ρ s) σ H Q) : tOr (tT C W m) (tT C W n) σ H Q := by
  obtain ⟨F, L, S, ρ, k, en, q⟩ := h
  refine ⟨F, L, S, ρ, k, en, q.bind.imp fun F1 L1 H1 S1 t e1 k1 q1 => ?_⟩
  cases t with
  | true => exact iteT (q1.now k1)
  | false => exact iteF ⟨F1, L1, S1, ρ, k1, en.ext e1, q1⟩
theorem m_tnot {m : Env' → Sto → R Bool} (ha : PT X a (tT C W m)) : PT X (.UnaryOp .Not a pos) (tT C W fun ρ s => (m ρ s).bind fun t s => .ok (!t) s) := by
  refine PT.imp (pt_not ha) fun σ H Q ⟨F, L, S, ρ, k, en, q⟩ => ⟨F, L, S, ρ, k, en, q.bind.imp fun F1 L1 H1 S1 t e1 k1 q1 => ?_⟩
  exact q1.now k1
theorem m_tcmp {op : CmpOp} {r : R2} {f : D → D → Option Bool} (ho : OpR X (compareOp op) r) (hm : behindInMarks op b = false) (hf : OpOk C .fr r (fun x y => (f x y).map .bl)) (ha : PE X a (tE C W .pk ma)) (hb : PE X b (tE C W .pk mb)) :
    PT X (.Compare a [op] [b] pos) (tT C W fun ρ s => (ma ρ s).bind fun x s => (mb ρ s).bind fun y s => R.of (f x y) s) := by
  refine PT.imp (pt_cmpR ho ha hb hm) fun σ H Q ⟨F, L, S, ρ, k, en, q⟩ => ⟨F, L, S, ρ, k, en, q.bind.imp fun F1 L1 H1 S1 x e1 k1 q1 v1 r1 => ?_⟩
  refine ⟨F1, L1, S1, ρ, k1, en.ext e1, q1.bind.imp fun F2 L2 H2 S2 y e2 k2 q2 v2 r2 => ?_⟩
  obtain ⟨t, ht, q2⟩ := q2.of
  refine hf _ _ _ _ _ _ _ _ (.bl t) _ k2 (Pk.ext r1 e2) r2 (by show Option.map D.bl (f x y) = _; rw [ht]; rfl) fun F' L' H' v e k' r => ?_
  have r' : Rep C F' L' v (.bl t) := by simpa [Vok, isFr] using r
  cases r'
  exact ⟨t, rfl, q2 _ _ _ e k'⟩
theorem m_chain {op op' : CmpOp} {r r' : R2} {f g : D → D → Option Bool} (ho : OpR X (compareOp op) r) (hf : OpOk C .fr r (fun x y => (f x y).map .bl)) (ho' : OpR X (compareOp op') r') (hg : OpOk C .fr r' (fun x y => (g x y).map .bl))
    (hm : lastMarks [op, op'] [b, c] = false) (ha : PE X a (tE C W .pk ma)) (hb : PE X b (tE C W .pk mb)) (hc : PE X c (tE C W .pk mc)) :
    PE X (.Compare a [op, op'] [b, c] pos) (tE C W .fr fun ρ s => (ma ρ s).bind fun x s => (mb ρ s).bind fun y s => (R.of (f x y) s).bind fun t s => if t then (mc ρ s).bind fun z s => R.of ((g y z).map .bl) s else .ok (.bl false) s) := by
  refine PE.imp (pe_chain ho ho' ha hb hc hm) fun σ H Q ⟨F, L, S, ρ, k, en, q⟩ => ⟨F, L, S, ρ, k, en, q.bind.imp fun F1 L1 H1 S1 x e1 k1 q1 v1 r1 => ?_⟩
  refine ⟨F1, L1, S1, ρ, k1, en.ext e1, q1.bind.imp fun F2 L2 H2 S2 y e2 k2 q2 v2 r2 => ?_⟩
  obtain ⟨t, ht, q2⟩ := q2.bind.of
  have q2 := q2.now k2
  refine hf _ _ _ _ _ _ _ _ (.bl t) _ k2 (Pk.ext r1 e2) r2 (by show Option.map D.bl (f x y) = _; rw [ht]; rfl) fun F' L' H' v e k' r => ?_
  have r' : Rep C F' L' v (.bl t) := by simpa [Vok, isFr] using r
  cases r'
  refine ⟨t, rfl, ?_⟩
  cases t with
  | false => exact iteF (q2 _ _ _ e k' _ (Vok.re rfl (.bl _)))
  | true =>
    rw [if_pos rfl] at q2
    refine iteT ⟨F', L', S2, ρ, k', ((en.ext e1).ext e2).ext e, (q2.start e).bind.imp fun F3 L3 H3 S3 z e3 k3 q4 v3 r3 => ?_⟩
    obtain ⟨d, hd, q4⟩ := q4.of
    exact hg _ _ _ _ _ _ _ _ _ _ k3 ((Pk.ext r2 e).ext e3) r3 hd fun F4 L4 H4 v e4 k4 r4 => q4 _ _ _ e4 k4 v (r4.from fun a h => ((e1.trans e2).trans (e.trans e3)).none_of h)
theorem m_ite {m : Env' → Sto → R Bool} (hc : PT X c (tT C W m)) (ha : PE X a (tE C W lv ma)) (hb : PE X b (tE C W lv mb)) : PE X (.IfExp c a b pos) (tE C W lv fun ρ s => (m ρ s).bind fun t s => if t then ma ρ s else mb ρ s) := by
  refine PE.imp (pe_ifExp hc ha hb) fun σ H Q ⟨F, L, S, ρ, k, en, q⟩ => ⟨F, L, S, ρ, k, en, q.bind.imp fun F1 L1 H1 S1 t e1 k1 q1 => ?_⟩
  cases t with
  | true => exact iteT ⟨F1, L1, S1, ρ, k1, en.ext e1, Rn.imp q1 fun F' L' H' S' d e2 k2 p v r => p v (r.from fun a h => e1.none_of h)⟩
  | false => exact iteF ⟨F1, L1, S1, ρ, k1, en.ext e1, Rn.imp q1 fun F' L' H' S' d e2 k2 p v r => p v (r.from fun a h => e1.none_of h)⟩
/-! ### arguments, displays -/
variable {es : List Expr} {ms : Env' → Sto → R (List D)}
theorem m_anil : PA X [] (tA C W fun _ s => .ok [] s) := PA.imp pa_nil fun σ H Q ⟨F, L, S, ρ, k, en, q⟩ => q.now k [] .nil
theorem m_acons (hs : starEach (a :: es) X.env = (false, eval a X.env) :: starEach es X.env) (ha : PE X a (tE C W .rep ma)) (he : PA X es (tA C W ms)) :
    PA X (a :: es) (tA C W fun ρ s => (ma ρ s).bind fun d s => (ms ρ s).bind fun ds s => .ok (d :: ds) s) := by
  refine PA.imp (pa_cons ha he hs) fun σ H Q ⟨F, L, S, ρ, k, en, q⟩ => ⟨F, L, S, ρ, k, en, q.bind.imp fun F1 L1 H1 S1 x e1 k1 q1 v1 r1 => ?_⟩
  have r1 : Rep C F1 L1 v1 x := r1
  exact ⟨F1, L1, S1, ρ, k1, en.ext e1, q1.bind.imp fun F2 L2 H2 S2 ds e2 k2 q2 vs rs => q2.now k2 _ (.cons (r1.up e2.ff e2.ll) rs)⟩
theorem m_astar {sp : Pos} (hK : X.K = C.K) (ha : PE X a (tE C W .pk ma)) (he : PA X es (tA C W ms)) :
    PA X (.Starred a sp :: es) (tA C W fun ρ s => (ma ρ s).bind fun x s => (R.of (seqItems x) s).bind fun xs s => (ms ρ s).bind fun ds s => .ok (xs ++ ds) s) := by
  refine PA.imp (StX.pa_star ha he) fun σ H Q ⟨F, L, S, ρ, k, en, q⟩ => ⟨F, L, S, ρ, k, en, q.bind.imp fun F1 L1 H1 S1 x e1 k1 q1 v1 r1 => ?_⟩
  obtain ⟨xs, hx, q1⟩ := q1.bind.of
  have q1 := q1.now k1
  have key : ∃ p vs, v1 = V.ref p ∧ (SqT X.K H1 p vs ∨ SqL X.K H1 p vs) ∧ RepAll C F1 L1 vs xs := by
    cases x <;> simp only [seqItems, Option.some.injEq] at hx <;> (first | cases hx | skip)
    · obtain ⟨p, vs, h1, h2, _, r, _⟩ := Pk.tup k1.sub r1
      exact ⟨p, vs, h1, .inl (by rw [hK]; exact h2), r⟩
    · obtain ⟨p, vs, h1, h2, _, r⟩ := Pk.list k1.sub r1
      exact ⟨p, vs, h1, .inr (SqL.of h2), r⟩
  obtain ⟨p, vs, h1, h2, r⟩ := key
  exact ⟨p, vs, h1, h2, F1, L1, S1, ρ, k1, en.ext e1, q1.bind.imp fun F2 L2 H2 S2 ds e2 k2 q2 ws rs => q2.now k2 _ ((r.up e2.ff e2.ll).append rs)⟩
theorem m_tup {x1 : Nat} (he : PA X es (tA C W ms)) : PE X (.Tuple es x1 pos) (tE C W .fr fun ρ s => (ms ρ s).bind fun ds s => R.of (mkTup ds) s) := by
  refine PE.imp (pe_tup he) fun σ H Q ⟨F, L, S, ρ, k, en, q⟩ => ⟨F, L, S, ρ, k, en, q.bind.imp fun F1 L1 H1 S1 ds e1 k1 q1 vs r => ?_⟩
  obtain ⟨d, hd, q1⟩ := q1.of
  obtain ⟨rfl, z⟩ := mkTup_some hd
  have z' : vs.length ≤ sizeLine := by rw [r.length]; exact z
  refine ⟨z', fun p n => ?_⟩
  obtain ⟨F', x1, x2, x3⟩ := new_tup k1 n z' r
  exact q1 _ _ _ x1 x2 _ (Vok.re rfl x3)
theorem m_lst (he : PA X es (tA C W ms)) : PE X (.List es pos) (tE C W .fr fun ρ s => (ms ρ s).bind fun ds s => R.of (mkLst ds) s) := by
  refine PE.imp (pe_lst he) fun σ H Q ⟨F, L, S, ρ, k, en, q⟩ => ⟨F, L, S, ρ, k, en, q.bind.imp fun F1 L1 H1 S1 ds e1 k1 q1 vs r => ?_⟩
  obtain ⟨d, hd, q1⟩ := q1.of
  obtain ⟨rfl, z⟩ := mkLst_some hd
  have z' : vs.length ≤ sizeLine := by rw [r.length]; exact z
  refine ⟨z', fun p n => ?_⟩
  obtain ⟨x1, x2, x3⟩ := new_lst k1 n z' r
  exact q1 _ _ _ x1 x2 _ (Vok.fr (x3.from fun a h => e1.none_of h))
/-! ### a new list as a cell -/
theorem m_cell (ha : PE X a (tE C W .fr ma)) : PE X a (tE C W .rep fun ρ s => (ma ρ s).bind newCell) := by
  refine PE.imp ha fun σ H Q ⟨F, L, S, ρ, k, en, q⟩ => ⟨F, L, S, ρ, k, en, ?_⟩
  dsimp only at q
  cases e : ma ρ S with
  | exc x s => rw [e] at q; exact q
  | stuck => rw [e] at q; exact q
  | ok d S' =>
    rw [e] at q
    cases d <;> (first | exact False.elim q | skip)
    rename_i xs
    intro F1 L1 H1 e1 k1 v r
    have r : Fr C F1 L1 H H1 v (.lst xs) := by simpa [Vok, isFr] using r
    cases r with
    | @lst p vs _ n h z f l rr =>
      have pre : L1 <+: L1 ++ [p] := List.prefix_append _ _
      refine q F1 (L1 ++ [p]) H1 ⟨e1.ff, e1.ll.trans pre, e1.keep, e1.there, e1.nF, fun b hb => ?_⟩ ⟨k1.sub, fun b hb => ?_, ?_, ?_, fun m c hc => ?_⟩ (.ref p) (.ref ?_)
      · rcases List.mem_append.mp hb with hb | hb
        · exact e1.nL b hb
        · rw [List.mem_singleton.mp hb]; exact .inr n
      · rcases List.mem_append.mp hb with hb | hb
        · exact k1.fl b hb
        · rw [List.mem_singleton.mp hb]; exact f
      · rw [List.nodup_append]
        exact ⟨k1.nd, by simp, fun b hb c hc => by rw [List.mem_singleton.mp hc]; rintro rfl; exact l hb⟩
      · simp [k1.len]
      · by_cases hm : m < S'.length
        · rw [List.getElem?_append_left hm] at hc
          obtain ⟨b, h1, h2⟩ := k1.cells m c hc
          exact ⟨b, pre_get pre h1, h2.up (Sub.refl _) pre rfl⟩
        · rw [List.getElem?_append_right (by omega)] at hc
          have h0 : m - S'.length = 0 := by
            cases hh : m - S'.length with
            | zero => rfl
            | succ j => rw [hh] at hc; simp at hc
          rw [h0] at hc
          cases hc
          have hm' : m = L1.length := by have := k1.len; omega
          exact ⟨p, by rw [hm', List.getElem?_append_right (Nat.le_refl _)]; simp, .lst h z (rr.up (Sub.refl _) pre)⟩
      · rw [← k1.len, List.getElem?_append_right (Nat.le_refl _)]; simp
end
end MP

/-! MP: subscripts, slices, calls. -/
namespace MP
open PySem PySem.Spec PyProof.Rows L2
section
variable {C : Cn} {W : WX} {X : Cx} {lv : Lv} {a b c : Expr} {pos : Pos} {ma mb mc : Env' → Sto → R D} {es : List Expr} {ms : Env' → Sto → R (List D)}
/-! ### items -/
theorem atI_rep {F : Hp} {L : List Addr} {vs : List V} {ds : List D} {i : Int} {d : D} (r : RepAll C F L vs ds) (h : atI ds i = some d) : ∃ v, atI vs i = some v ∧ Rep C F L v d := by
  unfold atI at h ⊢
  rw [← r.length] at h
  cases e : ixN vs.length i with
  | none => rw [e] at h; cases h
  | some j =>
    rw [e] at h
    exact r.get h
theorem ok_ix (hK : X.K = C.K) : OpOk C .rep (rIx X.K) dIdx0 := by
  intro F L H S x y a b d Q k px py e q
  unfold dIdx0 at e
  rw [hK]
  split at e
  · obtain ⟨p, vs, rfl, h1, _, r⟩ := px.list k.sub
    obtain ⟨v, h2, r2⟩ := atI_rep r e
    exact .inl ⟨p, vs, _, v, rfl, py.int, SqL.of h1, h2, q F L H _ (Ext.refl _ _ _) k r2⟩
  · obtain ⟨p, vs, rfl, h1, _, r, _⟩ := px.tup k.sub
    obtain ⟨v, h2, r2⟩ := atI_rep r e
    exact .inr (.inl ⟨p, vs, _, v, rfl, py.int, h1, h2, q F L H _ (Ext.refl _ _ _) k r2⟩)
  · rename_i z i
    cases e2 : atI z.cps.toList i with
    | none => rw [e2] at e; cases e
    | some cc =>
      rw [e2] at e
      obtain ⟨rfl, h⟩ := mkStr_some e
      exact .inr (.inr ⟨z, i, cc, px.str.1, py.int, sOk_len px.str.2, e2, q F L H _ (Ext.refl _ _ _) k (.str _ h)⟩)
  · cases e
theorem m_idx (hK : X.K = C.K) (hs : PlainIx b) (ha : PE X a (tE C W .pk ma)) (hb : PE X b (tE C W .pk mb)) :
    PE X (.Subscript a b pos) (tE C W .rep fun ρ s => (ma ρ s).bind fun x s => (mb ρ s).bind fun y s => R.of (dIdx0 x y) s) := by
  refine PE.imp (pe_ix ix_seq ha hb hs) fun σ H Q ⟨F, L, S, ρ, k, en, q⟩ => ⟨F, L, S, ρ, k, en, q.bind.imp fun F1 L1 H1 S1 x e1 k1 q1 v1 r1 => ?_⟩
  refine ⟨F1, L1, S1, ρ, k1, en.ext e1, q1.bind.imp fun F2 L2 H2 S2 y e2 k2 q2 v2 r2 => ?_⟩
  obtain ⟨d, hd, q2⟩ := q2.of
  exact ok_ix hK _ _ _ _ _ _ _ _ _ _ k2 (Pk.ext r1 e2) r2 hd fun F' L' H' v e k' r => q2 _ _ _ e k' v r
/-! ### slices -/
def tO (C : Cn) (W : WX) (m : Env' → Sto → R (Option Int)) : TO := fun σ H Q => ∃ F L S ρ, Ok C F L H S ∧ EnvOk C F L H ρ σ ∧
  Rn C W σ F L H (m ρ S) fun F' L' H' _ i => Q i H'
theorem PO.imp {e : Option Expr} {t t' : TO} (h : PO X e t) (f : ∀ σ H Q, t' σ H Q → t σ H Q) : PO X e t' := ⟨fun pins s σ H Q I q => h.run pins s σ H Q I (f σ H Q q)⟩
theorem m_onone : PO X none (tO C W fun _ s => .ok none s) := PO.imp po_none fun σ H Q ⟨F, L, S, ρ, k, en, q⟩ => q.now k
theorem asInt_some {d : D} {i : Int} (h : asInt d = some i) : d = .int i := by
  cases d <;> simp only [asInt, Option.some.injEq] at h <;> (first | cases h | skip)
  rfl
theorem m_osome (ha : PE X a (tE C W .pk ma)) : PO X (some a) (tO C W fun ρ s => (ma ρ s).bind fun d s => (R.of (asInt d) s).bind fun i s => .ok (some i) s) := by
  refine PO.imp (po_some ha) fun σ H Q ⟨F, L, S, ρ, k, en, q⟩ => ⟨F, L, S, ρ, k, en, q.bind.imp fun F1 L1 H1 S1 x e1 k1 q1 v1 r1 => ?_⟩
  obtain ⟨i, h, q⟩ := q1.bind.of
  cases asInt_some h
  exact ⟨_, Pk.int r1, (q.now k1).now k1⟩
theorem cut_rep {F : Hp} {L : List Addr} {vs : List V} {ds : List D} (r : RepAll C F L vs ds) (lo hi : Option Int) : RepAll C F L (cutV vs lo hi) (cut ds lo hi) := by
  unfold cutV cut
  rw [r.length]
  exact (r.drop _).take _
theorem cut_length {α : Type} (xs : List α) (lo hi : Option Int) : (cut xs lo hi).length ≤ xs.length := by
  unfold cut
  rw [List.length_take, List.length_drop]
  omega
theorem cut_all {α : Type} {xs : List α} {n : Nat} {l h : Option Int} (e : n = xs.length) (h1 : HT.sIx n 0 l = 0) (h2 : HT.sIx n n h = n) : cut xs l h = xs := by
  subst e
  unfold cut
  rw [h1, h2, List.drop_zero, Nat.sub_zero, List.take_length]
theorem m_slice {lo hi : Option Expr} {ml mh : Env' → Sto → R (Option Int)} {p2 : Pos} (hK : X.K = C.K) (ha : PE X a (tE C W .pk ma)) (hl : PO X lo (tO C W ml)) (hh : PO X hi (tO C W mh)) :
    PE X (.Subscript a (.Slice lo hi none p2) pos) (tE C W .fr fun ρ s => (ma ρ s).bind fun x s => (ml ρ s).bind fun l s => (mh ρ s).bind fun h s => R.of (dSlice x l h) s) := by
  refine PE.imp (pe_slice (sl_list.or (sl_tupA.or sl_str)) ha hl hh) fun σ H Q ⟨F, L, S, ρ, k, en, q⟩ => ⟨F, L, S, ρ, k, en, q.bind.imp fun F1 L1 H1 S1 x e1 k1 q1 v1 r1 => ?_⟩
  refine ⟨F1, L1, S1, ρ, k1, en.ext e1, q1.bind.imp fun F2 L2 H2 S2 l e2 k2 q2 => ?_⟩
  refine ⟨F2, L2, S2, ρ, k2, (en.ext e1).ext e2, q2.bind.imp fun F3 L3 H3 S3 h e3 k3 q3 => ?_⟩
  obtain ⟨d, hd, q3⟩ := q3.of
  have px := Pk.ext (Pk.ext r1 e2) e3
  have e0 := (e1.trans e2).trans e3
  cases x <;> simp only [dSlice, Option.some.injEq] at hd <;> (first | cases hd | skip)
  · obtain ⟨h1, h2⟩ := mkStr_some hd
    subst h1
    exact .inr (.inr ⟨_, px.str.1, sOk_len px.str.2, q3.now k3 _ (Vok.re rfl (.str _ h2))⟩)
  · obtain ⟨p, vs, rfl, h1, z, r, rr⟩ := px.tup k3.sub
    refine .inr (.inl ⟨p, vs, rfl, by rw [hK]; exact h1, fun hw => ?_, fun hw p n => ?_⟩)
    · rw [cut_all r.length hw.1 hw.2] at q3
      exact q3.now k3 _ (Vok.re rfl rr)
    · obtain ⟨F', x1, x2, x3⟩ := new_tup k3 n (Nat.le_trans (cutV_length _ _ _) z) (cut_rep r l h)
      exact q3 _ _ _ x1 x2 _ (Vok.re rfl x3)
  · obtain ⟨p, vs, rfl, h1, z, r⟩ := px.list k3.sub
    refine .inl ⟨p, vs, rfl, SqL.of h1, fun p n => ?_⟩
    obtain ⟨x1, x2, x3⟩ := new_lst k3 n (Nat.le_trans (cutV_length _ _ _) z) (cut_rep r l h)
    exact q3 _ _ _ x1 x2 _ (Vok.fr (x3.from fun a h => e0.none_of h))
/-! ### what a def promises -/
def lvOf (fr : Bool) : Lv := if fr then .fr else .rep
def spD (C : Cn) (n : Nat) (fr : Bool) (f : FS) : Sp := fun vs H Q E => vs.length = n ∧ ∃ F L S ds, Ok C F L H S ∧ RepAll C F L vs ds ∧
  Rn C (fun c d _ H' => E c d H') [] F L H (f ds S) fun F' L' H' _ d => ∀ v, Vok C F' L' H H' (lvOf fr) v d → Q v H'
theorem Rn.wish {W W' : WX} {σ σ' : Sg} {F : Hp} {L : List Addr} {H : Hp} {α : Type} {r : R α} {P : Hp → List Addr → Hp → Sto → α → Prop} (h : Rn C W σ F L H r P) (f : ∀ c d H', W c d σ H' → W' c d σ' H') : Rn C W' σ' F L H r P := by
  cases r with
  | ok a s => exact h
  | exc x s => exact fun F' L' H' dx e k o => f _ _ _ (h F' L' H' dx e k o)
  | stuck => exact h
/-- what is known of a def at a name -/
structure FnAt (C : Cn) (X : Cx) (x : Str) (n : Nat) (fr : Bool) (f : FS) : Prop where
  ex : ∃ (k : Nat) (a : Addr) (fd : FuncData) (ps : List Str), FnOk X.prog X.w X.K X.mg X.base (L2.CX X.prog X.w) k a fd ps (spD C n fr f) ∧ Room k X.A ∧ X.mg x = some (.ref a) ∧ PySem.W.keepIn X.K (.ref a) = true ∧ Binds X.K fd ps []
theorem m_call {x : Str} {p : Pos} {n : Nat} {fr : Bool} {f : FS} (tk : Takes X W) (hf : FnAt C X x n fr f) (hg : Gl X x) (hd : (x == ("__debug__" : Str)) = false) (hn : (a :: es).length = n)
    (he : starEach (a :: es) X.env = (false, eval a X.env) :: starEach es X.env) (hpl : (backTo pos (starEach es X.env)).any (·.1) = false) (hlen : ∀ ρ s ds s', ms ρ s = .ok ds s' → ds.length = n) (ha : PA X (a :: es) (tA C W ms)) :
    PE X (.Call (.Name x p) (a :: es) [] pos) (tE C W (lvOf fr) fun ρ s => (ms ρ s).bind fun ds s => f ds s) := by
  obtain ⟨k, ad, fd, ps, F0, hr, hm, hk, hb⟩ := hf.ex
  refine PE.imp (pe_callS F0 hr hg hm hk hb (fun σ => passAt tk σ) ha hd he hpl) fun σ H Q ⟨F, L, S, ρ, k, en, q⟩ => ?_
  have q' := q.bind
  refine ⟨F, L, S, ρ, k, en, ?_⟩
  cases e : ms ρ S with
  | exc x s => rw [e] at q'; exact q'
  | stuck => rw [e] at q'; exact q'
  | ok ds S' =>
    rw [e] at q'
    intro F1 L1 H1 e1 k1 vs r1
    refine ⟨by rw [r1.length]; exact hlen _ _ _ _ e, F1, L1, S', ds, k1, r1, ?_⟩
    exact ((q' _ _ _ e1 k1).wish fun c d H' w => w).imp fun F2 L2 H2 S2 d e2 k2 p v r => p v (r.from fun a h => e1.none_of h)
theorem m_call0 {x : Str} {p : Pos} {fr : Bool} {f : FS} (hf : FnAt C X x 0 fr f) (hg : Gl X x) (hd : (x == ("__debug__" : Str)) = false) :
    PE X (.Call (.Name x p) [] [] pos) (tE C W (lvOf fr) fun ρ s => match f [] s with | .ok d s => .ok d s | _ => .stuck) := by
  obtain ⟨k, ad, fd, ps, F0, hr, hm, hk, hb⟩ := hf.ex
  refine PE.imp (pe_call0 F0 hr hg hm hk hb .nil passL hd) fun σ H Q ⟨F, L, S, ρ, k, en, q⟩ => ?_
  refine ⟨rfl, F, L, S, [], k, .nil, ?_⟩
  dsimp only at q
  cases e : f [] S with
  | ok d s => rw [e] at q; exact q
  | exc x s => rw [e] at q; exact False.elim q
  | stuck => rw [e] at q; exact False.elim q
end
end MP

/-! MP: built-ins. -/
namespace MP
open PySem PySem.Spec PyProof.Rows L2
inductive PkAll (C : Cn) (F : Hp) (L : List Addr) (H : Hp) : List V → List D → Prop
  | nil : PkAll C F L H [] []
  | cons {v : V} {vs : List V} {d : D} {ds : List D} : Pk C F L H v d → PkAll C F L H vs ds → PkAll C F L H (v :: vs) (d :: ds)
def tP (C : Cn) (W : WX) (m : Env' → Sto → R (List D)) : TA := fun σ H Q => ∃ F L S ρ, Ok C F L H S ∧ EnvOk C F L H ρ σ ∧
  Rn C W σ F L H (m ρ S) fun F' L' H' _ ds => ∀ vs, PkAll C F' L' H' vs ds → Q vs H'
section
variable {C : Cn} {W : WX} {X : Cx} {lv : Lv} {a b c : Expr} {pos : Pos} {ma mb mc : Env' → Sto → R D} {es : List Expr} {ms : Env' → Sto → R (List D)}
theorem m_pnil : PA X [] (tP C W fun _ s => .ok [] s) := PA.imp pa_nil fun σ H Q ⟨F, L, S, ρ, k, en, q⟩ => q.now k [] .nil
theorem m_pcons (hs : starEach (a :: es) X.env = (false, eval a X.env) :: starEach es X.env) (ha : PE X a (tE C W .pk ma)) (he : PA X es (tP C W ms)) :
    PA X (a :: es) (tP C W fun ρ s => (ma ρ s).bind fun d s => (ms ρ s).bind fun ds s => .ok (d :: ds) s) := by
  refine PA.imp (pa_cons ha he hs) fun σ H Q ⟨F, L, S, ρ, k, en, q⟩ => ⟨F, L, S, ρ, k, en, q.bind.imp fun F1 L1 H1 S1 x e1 k1 q1 v1 r1 => ?_⟩
  exact ⟨F1, L1, S1, ρ, k1, en.ext e1, q1.bind.imp fun F2 L2 H2 S2 ds e2 k2 q2 vs rs => q2.now k2 _ (.cons (Pk.ext r1 e2) rs)⟩
/-- what a built-in gives, by trees -/
def CallOk (C : Cn) (lv : Lv) (r : List V → Hp → VK → Prop) (f : List D → Option D) : Prop := ∀ (F : Hp) (L : List Addr) (H : Hp) (S : Sto) (vs : List V) (ds : List D) (d : D) (Q : VK), Ok C F L H S → PkAll C F L H vs ds → f ds = some d →
  (∀ F' L' H' v, Ext F L H F' L' H' → Ok C F' L' H' S → Vok C F' L' H H' lv v d → Q v H') → r vs H Q
theorem CallOk.or {r r' : List V → Hp → VK → Prop} {f f' : List D → Option D} (h : CallOk C lv r f) (h' : CallOk C lv r' f') : CallOk C lv (fun x H Q => r x H Q ∨ r' x H Q) (fun a => (f a).or (f' a)) := by
  intro F L H S vs ds d Q k p e q
  dsimp only at e
  cases e1 : f ds with
  | some d1 =>
    rw [e1] at e
    simp only [Option.some_or, Option.some.injEq] at e
    subst e
    exact .inl (h F L H S vs ds _ Q k p e1 q)
  | none =>
    rw [e1, Option.none_or] at e
    exact .inr (h' F L H S vs ds _ Q k p e q)
theorem CallOk.cong {r : List V → Hp → VK → Prop} {f f' : List D → Option D} (h : CallOk C lv r f) (e : ∀ a d, f' a = some d → f a = some d) : CallOk C lv r f' := fun F L H S vs ds d Q k p z q => h F L H S vs ds d Q k p (e ds d z) q
theorem m_bltB {x : Str} {id : String} {p : Pos} {r : List V → Hp → VK → Prop} {f : List D → Option D} (hc : CallR X (.builtin id) r) (hf : CallOk C lv r f) (hg : Gl X x) (hm : X.mg x = none) (hv : bootBuiltins x = some (.builtin id)) (hn : x ≠ "__name__") (hd : (x == ("__debug__" : Str)) = false)
    (he : starEach (a :: es) X.env = (false, eval a X.env) :: starEach es X.env) (hpl : (backTo pos (starEach es X.env)).any (·.1) = false) (ha : PA X (a :: es) (tP C W ms)) :
    PE X (.Call (.Name x p) (a :: es) [] pos) (tE C W lv fun ρ s => (ms ρ s).bind fun ds s => R.of (f ds) s) := by
  refine PE.imp (pe_callB hc hg hm hv ha hn hd he hpl) fun σ H Q ⟨F, L, S, ρ, k, en, q⟩ => ⟨F, L, S, ρ, k, en, q.bind.imp fun F1 L1 H1 S1 ds e1 k1 q1 vs rs => ?_⟩
  obtain ⟨d, h, q1⟩ := q1.of
  exact hf _ _ _ _ _ _ _ _ k1 rs h fun F' L' H' v e k' r => q1 _ _ _ e k' v (r.from fun a h => e1.none_of h)
theorem m_bltT {x : Str} {id : String} {p : Pos} {r : List V → Hp → VK → Prop} {f : List D → Option D} (hc : CallR X (.type id) r) (hf : CallOk C lv r f) (hg : Gl X x) (hm : X.mg x = none) (hv : bootBuiltins x = some (.type id)) (hn : x ≠ "__name__") (hd : (x == ("__debug__" : Str)) = false)
    (he : starEach (a :: es) X.env = (false, eval a X.env) :: starEach es X.env) (hpl : (backTo pos (starEach es X.env)).any (·.1) = false) (ha : PA X (a :: es) (tP C W ms)) :
    PE X (.Call (.Name x p) (a :: es) [] pos) (tE C W lv fun ρ s => (ms ρ s).bind fun ds s => R.of (f ds) s) := by
  refine PE.imp (pe_callTy hc hg hm hv ha hn hd he hpl) fun σ H Q ⟨F, L, S, ρ, k, en, q⟩ => ⟨F, L, S, ρ, k, en, q.bind.imp fun F1 L1 H1 S1 ds e1 k1 q1 vs rs => ?_⟩
  obtain ⟨d, h, q1⟩ := q1.of
  exact hf _ _ _ _ _ _ _ _ k1 rs h fun F' L' H' v e k' r => q1 _ _ _ e k' v (r.from fun a h => e1.none_of h)
/-! ### the tables -/
def f1 (g : D → Option D) : List D → Option D
  | [d] => g d
  | _ => none
def f2 (g : D → D → Option D) : List D → Option D
  | [d, e] => g d e
  | _ => none
theorem call1 {r : List V → Hp → VK → Prop} {g : D → Option D} (h : ∀ (F : Hp) (L : List Addr) (H : Hp) (S : Sto) (v : V) (x d : D) (Q : VK), Ok C F L H S → Pk C F L H v x → g x = some d → (∀ F' L' H' v, Ext F L H F' L' H' → Ok C F' L' H' S → Vok C F' L' H H' lv v d → Q v H') → r [v] H Q) : CallOk C lv r (f1 g) := by
  intro F L H S vs ds d Q k p e q
  unfold f1 at e
  split at e
  · cases p with
    | cons p1 p2 => cases p2; exact h F L H S _ _ d Q k p1 e q
  · cases e
theorem call2 {r : List V → Hp → VK → Prop} {g : D → D → Option D} (h : ∀ (F : Hp) (L : List Addr) (H : Hp) (S : Sto) (v w : V) (x y d : D) (Q : VK), Ok C F L H S → Pk C F L H v x → Pk C F L H w y → g x y = some d → (∀ F' L' H' v, Ext F L H F' L' H' → Ok C F' L' H' S → Vok C F' L' H H' lv v d → Q v H') → r [v, w] H Q) : CallOk C lv r (f2 g) := by
  intro F L H S vs ds d Q k p e q
  unfold f2 at e
  split at e
  · cases p with
    | cons p1 p2 => cases p2 with | cons p2 p3 => cases p3; exact h F L H S _ _ _ _ d Q k p1 p2 e q
  · cases e
theorem dInts_rep {F : Hp} {L : List Addr} : ∀ {vs : List V} {ds : List D} {ns : List Int}, RepAll C F L vs ds → dInts ds = some ns → vs = ns.map V.int
  | _, _, ns, .nil, h => by simp [dInts] at h; subst h; rfl
  | _, _, ns, .cons r t, h => by
    cases r <;> simp [dInts] at h
    obtain ⟨l, h1, rfl⟩ := h
    rw [dInts_rep t h1]; rfl
theorem dBools_rep {F : Hp} {L : List Addr} : ∀ {vs : List V} {ds : List D} {ns : List Bool}, RepAll C F L vs ds → dBools ds = some ns → vs = ns.map V.bl
  | _, _, ns, .nil, h => by simp [dBools] at h; subst h; rfl
  | _, _, ns, .cons r t, h => by
    cases r <;> simp [dBools] at h
    obtain ⟨l, h1, rfl⟩ := h
    rw [dBools_rep t h1]; rfl
theorem dStrs_rep {F : Hp} {L : List Addr} : ∀ {vs : List V} {ds : List D} {ns : List Str}, RepAll C F L vs ds → dStrs ds = some ns → vs = ns.map V.str
  | _, _, ns, .nil, h => by simp [dStrs] at h; subst h; rfl
  | _, _, ns, .cons r t, h => by
    cases r <;> simp [dStrs] at h
    obtain ⟨l, h1, rfl⟩ := h
    rw [dStrs_rep t h1]; rfl
theorem Pk.scr {F : Hp} {L : List Addr} {H : Hp} {v : V} {ns : List Int} (x : Pk C F L H v (.scr ns)) (s : Sub F H) : ∃ a, v = .ref a ∧ SqL C.K H a (ns.map V.int) ∧ ns.length ≤ sizeLine := by
  cases x with
  | rep r => cases r with
    | scr h z => exact ⟨_, rfl, s.sqL h, z⟩
theorem ints_rep {F : Hp} {L : List Addr} : ∀ ns : List Int, RepAll C F L (ns.map V.int) (ns.map D.int)
  | [] => .nil
  | i :: is => .cons (.int i) (ints_rep is)
def gLen : D → Option D
  | .lst xs | .tup xs => some (.int xs.length)
  | .str x => some (.int x.length)
  | _ => none
theorem c_len (hK : X.K = C.K) : CallOk C .fr (fun xs H Q => ∃ x n, xs = [x] ∧ LenV X.K x H n ∧ Q (.int n) H) (f1 gLen) := by
  rw [hK]
  refine call1 fun F L H S v x d Q k p e q => ?_
  cases x <;> simp only [gLen, Option.some.injEq] at e <;> (first | cases e | skip)
  · exact ⟨_, _, rfl, by rw [p.str.1]; exact ⟨sOk_len p.str.2, rfl⟩, q F L H _ (Ext.refl _ _ _) k (Vok.re rfl (.int _))⟩
  · obtain ⟨a, vs, rfl, h1, _, r, _⟩ := p.tup k.sub
    exact ⟨_, _, rfl, .inr ⟨vs, h1, rfl⟩, by rw [r.length]; exact q F L H _ (Ext.refl _ _ _) k (Vok.re rfl (.int _))⟩
  · obtain ⟨a, vs, rfl, h1, _, r⟩ := p.list k.sub
    exact ⟨_, _, rfl, .inl ⟨vs, SqL.of h1, rfl⟩, by rw [r.length]; exact q F L H _ (Ext.refl _ _ _) k (Vok.re rfl (.int _))⟩
def gLenD : D → Option D
  | .dic kvs => some (.int kvs.length)
  | _ => none
theorem c_lenD : CallOk C .fr (fun xs H Q => ∃ (a : Addr) (kvs : List (Key × V)), xs = [.ref a] ∧ H a = some (.dK kvs) ∧ Q (.int kvs.length) H) (f1 gLenD) := by
  refine call1 fun F L H S v x d Q k p e q => ?_
  cases x <;> simp only [gLenD, Option.some.injEq] at e <;> (first | cases e | skip)
  obtain ⟨a, vs, rfl, h1, _, r⟩ := p.dict k.sub
  exact ⟨_, _, rfl, h1, by rw [r.length]; exact q F L H _ (Ext.refl _ _ _) k (Vok.re rfl (.int _))⟩
def gInt : D → Option D
  | .int i => some (.int i)
  | .bl b => some (.int (if b then 1 else 0))
  | _ => none
theorem c_int : CallOk C .fr (fun xs H Q => (∃ i, xs = [.int i] ∧ Q (.int i) H) ∨ ∃ k, xs = [.bl k] ∧ Q (.int (if k then 1 else 0)) H) (f1 gInt) := by
  refine call1 fun F L H S v x d Q k p e q => ?_
  cases x <;> simp only [gInt, Option.some.injEq] at e <;> (first | cases e | skip)
  · exact .inr ⟨_, by rw [p.bl], q F L H _ (Ext.refl _ _ _) k (Vok.re rfl (.int _))⟩
  · exact .inl ⟨_, by rw [p.int], q F L H _ (Ext.refl _ _ _) k (Vok.re rfl (.int _))⟩
def gIntS : D → Option D
  | .str x => if x.length ≤ 640 then (PySem.intText? x).map .int else none
  | _ => none
theorem c_intS : CallOk C .fr (fun xs H Q => ∃ a n, xs = [.str a] ∧ PySem.intText? a = some n ∧ a.length ≤ 640 ∧ Q (.int n) H) (f1 gIntS) := by
  refine call1 fun F L H S v x d Q k p e q => ?_
  cases x <;> simp only [gIntS] at e <;> (first | cases e | skip)
  split at e
  · rename_i z h
    cases e2 : PySem.intText? z with
    | none => rw [e2] at e; cases e
    | some n =>
      rw [e2] at e
      cases e
      exact ⟨_, _, by rw [p.str.1], e2, h, q F L H _ (Ext.refl _ _ _) k (Vok.re rfl (.int _))⟩
  · cases e
def gList : D → Option D
  | .lst xs | .tup xs => some (.lst xs)
  | .scr ns => some (.lst (ns.map .int))
  | _ => none
theorem c_list (hK : X.K = C.K) : CallOk C .fr (fun xs H Q => ∃ p ys, xs = [.ref p] ∧ (SqL X.K H p ys ∨ SqT X.K H p ys) ∧ ∀ l, H l = none → Q (.ref l) (upd H l (.lst ys))) (f1 gList) := by
  rw [hK]
  refine call1 fun F L H S v x d Q k p e q => ?_
  cases x <;> simp only [gList, Option.some.injEq] at e <;> (first | cases e | skip)
  · obtain ⟨a, vs, rfl, h1, z, r, _⟩ := p.tup k.sub
    refine ⟨_, _, rfl, .inr h1, fun l n => ?_⟩
    obtain ⟨x1, x2, x3⟩ := new_lst k n z r
    exact q _ _ _ _ x1 x2 (Vok.fr x3)
  · obtain ⟨a, vs, rfl, h1, z, r⟩ := p.list k.sub
    refine ⟨_, _, rfl, .inl (SqL.of h1), fun l n => ?_⟩
    obtain ⟨x1, x2, x3⟩ := new_lst k n z r
    exact q _ _ _ _ x1 x2 (Vok.fr x3)
  · obtain ⟨a, rfl, h1, z⟩ := p.scr k.sub
    refine ⟨_, _, rfl, .inl h1, fun l n => ?_⟩
    obtain ⟨x1, x2, x3⟩ := new_lst (vs := _) k n (by rw [List.length_map]; exact z) (ints_rep _)
    exact q _ _ _ _ x1 x2 (Vok.fr x3)
def gTuple : D → Option D
  | .lst xs | .tup xs => some (.tup xs)
  | _ => none
theorem c_tuple (hK : X.K = C.K) : CallOk C .fr (fun xs H Q => ∃ p ys, xs = [.ref p] ∧ ((SqL X.K H p ys ∧ ∀ l, H l = none → Q (.ref l) (upd H l (.tup ys))) ∨ (SqT X.K H p ys ∧ Q (.ref p) H))) (f1 gTuple) := by
  rw [hK]
  refine call1 fun F L H S v x d Q k p e q => ?_
  cases x <;> simp only [gTuple, Option.some.injEq] at e <;> (first | cases e | skip)
  · obtain ⟨a, vs, rfl, h1, z, r, rr⟩ := p.tup k.sub
    exact ⟨_, _, rfl, .inr ⟨h1, q F L H _ (Ext.refl _ _ _) k (Vok.re rfl rr)⟩⟩
  · obtain ⟨a, vs, rfl, h1, z, r⟩ := p.list k.sub
    refine ⟨_, _, rfl, .inl ⟨SqL.of h1, fun l n => ?_⟩⟩
    obtain ⟨F', x1, x2, x3⟩ := new_tup k n z r
    exact q _ _ _ _ x1 x2 (Vok.re rfl x3)
def gSum : D → Option D
  | .lst xs => (dInts xs).map fun ns => .int ns.sum
  | _ => none
theorem c_sum (hK : X.K = C.K) : CallOk C .fr (rSum X.K) (f1 gSum) := by
  rw [hK]
  refine call1 fun F L H S v x d Q k p e q => ?_
  cases x <;> simp only [gSum] at e <;> (first | cases e | skip)
  rename_i xs
  obtain ⟨a, vs, rfl, h1, z, r⟩ := p.list k.sub
  cases e2 : dInts xs with
  | none => rw [e2] at e; cases e
  | some ns =>
    rw [e2] at e
    cases e
    exact ⟨a, ns, rfl, by rw [← dInts_rep r e2]; exact SqL.of h1, q F L H _ (Ext.refl _ _ _) k (Vok.re rfl (.int _))⟩
def gAll : D → Option D
  | .lst xs => (dBools xs).map fun bs => .bl (bs.all id)
  | _ => none
theorem c_all (hK : X.K = C.K) : CallOk C .fr (rAll X.K) (f1 gAll) := by
  rw [hK]
  refine call1 fun F L H S v x d Q k p e q => ?_
  cases x <;> simp only [gAll] at e <;> (first | cases e | skip)
  rename_i xs
  obtain ⟨a, vs, rfl, h1, z, r⟩ := p.list k.sub
  cases e2 : dBools xs with
  | none => rw [e2] at e; cases e
  | some ns =>
    rw [e2] at e
    cases e
    exact ⟨a, ns, rfl, by rw [← dBools_rep r e2]; exact SqL.of h1, q F L H _ (Ext.refl _ _ _) k (Vok.re rfl (.bl _))⟩
def gAny : D → Option D
  | .lst xs => (dBools xs).map fun bs => .bl (bs.any id)
  | _ => none
theorem c_any (hK : X.K = C.K) : CallOk C .fr (rAny X.K) (f1 gAny) := by
  rw [hK]
  refine call1 fun F L H S v x d Q k p e q => ?_
  cases x <;> simp only [gAny] at e <;> (first | cases e | skip)
  rename_i xs
  obtain ⟨a, vs, rfl, h1, z, r⟩ := p.list k.sub
  cases e2 : dBools xs with
  | none => rw [e2] at e; cases e
  | some ns =>
    rw [e2] at e
    cases e
    exact ⟨a, ns, rfl, by rw [← dBools_rep r e2]; exact SqL.of h1, q F L H _ (Ext.refl _ _ _) k (Vok.re rfl (.bl _))⟩
def gStr : D → Option D
  | .int i => if i.natAbs.log2 < 1920 then mkStr (toString i) else none
  | _ => none
theorem c_str : CallOk C .fr (fun xs H Q => ∃ i : Int, xs = [.int i] ∧ i.natAbs.log2 < 1920 ∧ Q (.str (toString i)) H) (f1 gStr) := by
  refine call1 fun F L H S v x d Q k p e q => ?_
  cases x <;> simp only [gStr] at e <;> (first | cases e | skip)
  split at e
  · rename_i z h
    obtain ⟨rfl, h2⟩ := mkStr_some e
    exact ⟨_, by rw [p.int], h, q F L H _ (Ext.refl _ _ _) k (Vok.re rfl (.str _ h2))⟩
  · cases e
def gMax : D → D → Option D
  | .int i, .int j => some (.int (if j > i then j else i))
  | _, _ => none
theorem c_max : CallOk C .fr (fun xs H Q => ∃ i j : Int, xs = [.int i, .int j] ∧ Q (.int (if j > i then j else i)) H) (f2 gMax) := by
  refine call2 fun F L H S v w x y d Q k p p' e q => ?_
  cases x <;> cases y <;> simp only [gMax, Option.some.injEq] at e <;> (first | cases e | skip)
  exact ⟨_, _, by rw [p.int, p'.int], q F L H _ (Ext.refl _ _ _) k (Vok.re rfl (.int _))⟩
def bltName : Blt → Str
  | .len => "len" | .int => "int" | .list => "list" | .tuple => "tuple" | .sum => "sum" | .str => "str" | .max2 => "max" | .all => "all" | .any => "any"
theorem m_blt (o : Blt) {p : Pos} (hK : X.K = C.K) (hcalm : X.calm = true) (hg : Gl X (bltName o)) (hm : X.mg (bltName o) = none)
    (he : starEach (a :: es) X.env = (false, eval a X.env) :: starEach es X.env) (hpl : (backTo pos (starEach es X.env)).any (·.1) = false) (ha : PA X (a :: es) (tP C W ms)) :
    PE X (.Call (.Name (bltName o) p) (a :: es) [] pos) (tE C W .fr fun ρ s => (ms ρ s).bind fun ds s => R.of (dBlt o ds) s) := by
  cases o with
  | len => exact m_bltB (call_len.or call_lenD) (CallOk.cong ((c_len hK).or c_lenD) fun l d e => by rcases l with _ | ⟨x, _ | ⟨y, l⟩⟩ <;> (try cases x) <;> simp_all [dBlt, f1, gLen, gLenD]) hg hm boot_len (by decide) (by decide) he hpl ha
  | int => exact m_bltT (call_int1.or call_int_str) (CallOk.cong (c_int.or c_intS) fun l d e => by rcases l with _ | ⟨x, _ | ⟨y, l⟩⟩ <;> (try cases x) <;> simp_all [dBlt, f1, gInt, gIntS]) hg hm boot_int (by decide) (by decide) he hpl ha
  | list => exact m_bltT call_list_of (CallOk.cong (c_list hK) fun l d e => by rcases l with _ | ⟨x, _ | ⟨y, l⟩⟩ <;> (try cases x) <;> simp_all [dBlt, f1, gList]) hg hm boot_list (by decide) (by decide) he hpl ha
  | tuple => exact m_bltT call_tuple_of (CallOk.cong (c_tuple hK) fun l d e => by rcases l with _ | ⟨x, _ | ⟨y, l⟩⟩ <;> (try cases x) <;> simp_all [dBlt, f1, gTuple]) hg hm boot_tuple (by decide) (by decide) he hpl ha
  | sum => exact m_bltB (cr_sum hcalm) (CallOk.cong (c_sum hK) fun l d e => by rcases l with _ | ⟨x, _ | ⟨y, l⟩⟩ <;> (try cases x) <;> simp_all [dBlt, f1, gSum]) hg hm (by decide +kernel) (by decide) (by decide) he hpl ha
  | str => exact m_bltT call_str_int (CallOk.cong c_str fun l d e => by rcases l with _ | ⟨x, _ | ⟨y, l⟩⟩ <;> (try cases x) <;> simp_all [dBlt, f1, gStr]) hg hm boot_str (by decide) (by decide) he hpl ha
  | max2 => exact m_bltB (call_max2 hcalm) (CallOk.cong c_max fun l d e => by rcases l with _ | ⟨x, _ | ⟨y, _ | ⟨z, l⟩⟩⟩ <;> (try cases x) <;> (try cases y) <;> simp_all [dBlt, f2, gMax]) hg hm (by decide +kernel) (by decide) (by decide) he hpl ha
  | all => exact m_bltB (cr_all hcalm) (CallOk.cong (c_all hK) fun l d e => by rcases l with _ | ⟨x, _ | ⟨y, l⟩⟩ <;> (try cases x) <;> simp_all [dBlt, f1, gAll]) hg hm (by decide +kernel) (by decide) (by decide) he hpl ha
  | any => exact m_bltB (cr_any hcalm) (CallOk.cong (c_any hK) fun l d e => by rcases l with _ | ⟨x, _ | ⟨y, l⟩⟩ <;> (try cases x) <;> simp_all [dBlt, f1, gAny]) hg hm (by decide +kernel) (by decide) (by decide) he hpl ha
end
end MP

/-! MP: what is walked, targets, comprehensions. -/
namespace MP
open PySem PySem.Spec PyProof.Rows L2

/-- a walk over the items ds, at every state in which T holds -/
structure Walk (C : Cn) (T : Hp → List Addr → Hp → Prop) (J : It) (ds : List D) : Prop where
  len : ds.length ≤ sizeLine
  go : ∀ (i : Nat) (F : Hp) (L : List Addr) (H : Hp) (S : Sto), T F L H → Ok C F L H S → i < ds.length → J.go i H
  yld : ∀ (i : Nat) (F : Hp) (L : List Addr) (H : Hp) (S : Sto) (d : D), T F L H → Ok C F L H S → ds[i]? = some d → ∀ x H', J.yld i H x H' → ∃ F', Ext F L H F' L H' ∧ Ok C F' L H' S ∧ Rep C F' L x d
  stop : ∀ (i : Nat) (F : Hp) (L : List Addr) (H : Hp) (S : Sto), T F L H → Ok C F L H S → ds.length ≤ i → J.stop i H
/-- fz: the walked thing is frozen (a body may change own lists); else an expression's walk -/
def tgt (fz : Bool) (F : Hp) (L : List Addr) (H : Hp) : Hp → List Addr → Hp → Prop := fun F' L' H' => if fz = true then Sub F F' ∧ L <+: L' else Ext F L H F' L' H'
theorem tgt.sub {fz : Bool} {F : Hp} {L : List Addr} {H : Hp} {F' : Hp} {L' : List Addr} {H' : Hp} (h : tgt fz F L H F' L' H') : Sub F F' ∧ L <+: L' := by
  cases fz with
  | true => simpa [tgt] using h
  | false => exact ⟨(show Ext F L H F' L' H' by simpa [tgt] using h).ff, (show Ext F L H F' L' H' by simpa [tgt] using h).ll⟩
theorem tgt.of {fz : Bool} {F : Hp} {L : List Addr} {H : Hp} {F' : Hp} {L' : List Addr} {H' : Hp} (h : Ext F L H F' L' H') : tgt fz F L H F' L' H' := by
  cases fz with
  | true => simpa [tgt] using And.intro h.ff h.ll
  | false => simpa [tgt] using h
def lvS (fz : Bool) : Lv := if fz then .rep else .pk
def tI (C : Cn) (W : WX) (fz : Bool) (m : Env' → Sto → R (List D)) : TI := fun σ H Q => ∃ F L S ρ, Ok C F L H S ∧ EnvOk C F L H ρ σ ∧
  Rn C W σ F L H (m ρ S) fun F' L' H' _ ds => ∀ J, Walk C (tgt fz F' L' H') J ds → Q J H'
theorem PI.imp {X : Cx} {tg e : Expr} {t t' : TI} (h : PI X tg e t) (f : ∀ σ H Q, t' σ H Q → t σ H Q) : PI X tg e t' := ⟨fun pins s σ H Q I q => h.run pins s σ H Q I (f σ H Q q)⟩
theorem PI.or {X : Cx} {tg e : Expr} {t t' : TI} (h : PI X tg e t) (h' : PI X tg e t') : PI X tg e (fun σ H Q => t σ H Q ∨ t' σ H Q) := ⟨fun pins s σ H Q I q => q.elim (h.run pins s σ H Q I) (h'.run pins s σ H Q I)⟩
theorem PE.or {X : Cx} {e : Expr} {t t' : TE} (h : PE X e t) (h' : PE X e t') : PE X e (fun σ H Q => t σ H Q ∨ t' σ H Q) := ⟨fun pins s σ H Q I q => q.elim (h.run pins s σ H Q I) (h'.run pins s σ H Q I)⟩
section
variable {C : Cn} {W : WX} {X : Cx} {lv : Lv} {fz : Bool} {a b c tg : Expr} {pos : Pos} {ma mb mc : Env' → Sto → R D} {es : List Expr} {ms : Env' → Sto → R (List D)}
theorem Rep.tgt {F F' : Hp} {L L' : List Addr} {H H' : Hp} {v : V} {d : D} (r : Rep C F L v d) (h : MP.tgt fz F L H F' L' H') : Rep C F' L' v d := r.up h.sub.1 h.sub.2
/-- a list that stays -/
theorem stay_list {F : Hp} {L : List Addr} {H : Hp} {S : Sto} {v : V} {ds : List D} (k : Ok C F L H S) (x : Vok C F L H H (lvS fz) v (.lst ds)) : ∃ p vs, v = .ref p ∧ H p = some (.lst vs) ∧ vs.length ≤ sizeLine ∧ RepAll C F L vs ds ∧ ∀ F' L' H' S', tgt fz F L H F' L' H' → Ok C F' L' H' S' → H' p = some (.lst vs) := by
  cases fz with
  | true =>
    have r : Rep C F L v (.lst ds) := x
    cases r with
    | lst h z r => exact ⟨_, _, rfl, k.sub _ _ h, z, r, fun F' L' H' S' t k' => k'.sub _ _ (t.sub.1 _ _ h)⟩
  | false =>
    have r : Pk C F L H v (.lst ds) := x
    cases r with
    | rep r => cases r with | lst h z r => exact ⟨_, _, rfl, k.sub _ _ h, z, r, fun F' L' H' S' t k' => k'.sub _ _ (t.sub.1 _ _ h)⟩
    | lst h n z r => exact ⟨_, _, rfl, h, z, r, fun F' L' H' S' t k' => (show Ext F L H F' L' H' by simpa [tgt] using t).keep _ _ h n⟩
theorem lvS.pk {F : Hp} {L : List Addr} {H H0 : Hp} {v : V} {d : D} (x : Vok C F L H0 H (lvS fz) v d) : Pk C F L H v d := x.pk
theorem w_list {F : Hp} {L : List Addr} {H : Hp} {p : Addr} {vs : List V} {ds : List D} (z : vs.length ≤ sizeLine) (r : RepAll C F L vs ds) (st : ∀ F' L' H' S', tgt fz F L H F' L' H' → Ok C F' L' H' S' → H' p = some (.lst vs)) : Walk C (tgt fz F L H) (Itl C.K p) ds where
  len := by rw [← r.length]; exact z
  go := fun i F' L' H' S t k hi => by
    have hi' : i < vs.length := by rw [r.length]; exact hi
    exact ⟨vs, vs[i], SqL.of (st _ _ _ _ t k), List.getElem?_eq_getElem hi'⟩
  yld := fun i F' L' H' S d t k hd x H'' ⟨e, y⟩ => by
    subst e
    obtain ⟨v, h1, h2⟩ := r.get hd
    have h3 := y vs (SqL.of (st _ _ _ _ t k))
    rw [h1] at h3
    cases h3
    exact ⟨F', Ext.refl _ _ _, k, h2.up t.sub.1 t.sub.2⟩
  stop := fun i F' L' H' S t k hi => ⟨vs, SqL.of (st _ _ _ _ t k), by rw [r.length]; exact hi⟩
theorem w_tup {F : Hp} {L : List Addr} {H : Hp} {p : Addr} {vs : List V} {ds : List D} (h : SqT C.K F p vs) (z : vs.length ≤ sizeLine) (r : RepAll C F L vs ds) : Walk C (tgt fz F L H) (Itt C.K p) ds where
  len := by rw [← r.length]; exact z
  go := fun i F' L' H' S t k hi => by
    have hi' : i < vs.length := by rw [r.length]; exact hi
    exact ⟨vs, vs[i], k.sub.sqT (t.sub.1.sqT h), List.getElem?_eq_getElem hi'⟩
  yld := fun i F' L' H' S d t k hd x H'' ⟨e, y⟩ => by
    subst e
    obtain ⟨v, h1, h2⟩ := r.get hd
    have h3 := y vs (k.sub.sqT (t.sub.1.sqT h))
    rw [h1] at h3
    cases h3
    exact ⟨F', Ext.refl _ _ _, k, h2.up t.sub.1 t.sub.2⟩
  stop := fun i F' L' H' S t k hi => ⟨vs, k.sub.sqT (t.sub.1.sqT h), by rw [r.length]; exact hi⟩
theorem sOk_one {x : Str} (h : sOk x = true) {i : Nat} {c : Nat} (e : x.cps[i]? = some c) : sOk ⟨#[c]⟩ = true := by
  unfold sOk at h ⊢
  simp only [Bool.and_eq_true, decide_eq_true_eq, Array.all_eq_true] at h ⊢
  refine ⟨(by decide : 1 ≤ BIG), fun j hj => ?_⟩
  obtain ⟨hi, e⟩ := Array.getElem?_eq_some_iff.mp e
  have := h.2 i hi
  rw [e] at this
  simp at hj
  subst hj
  simpa using this
theorem w_str {F : Hp} {L : List Addr} {H : Hp} {x : Str} (h : sOk x = true) : Walk C (tgt fz F L H) (Its x) (x.cps.toList.map fun c => .str ⟨#[c]⟩) where
  len := by rw [List.length_map]; simpa [Str.length] using sOk_len h
  go := fun i F' L' H' S t k hi => by simpa [Its] using hi
  yld := fun i F' L' H' S d t k hd v H'' ⟨e, cc, e1, e2⟩ => by
    subst e e2
    simp only [List.getElem?_map, Array.getElem?_toList, e1, Option.map_some, Option.some.injEq] at hd
    subst hd
    exact ⟨F', Ext.refl _ _ _, k, .str _ (sOk_one h e1)⟩
  stop := fun i F' L' H' S t k hi => by simpa [Its] using hi
theorem w_rng {F : Hp} {L : List Addr} {H : Hp} {lo : Int} {n : Nat} (h : n ≤ sizeLine) : Walk C (tgt fz F L H) (Itr lo n) (rngItems lo n) where
  len := by simpa [rngItems] using h
  go := fun i F' L' H' S t k hi => by simpa [Itr, rngItems] using hi
  yld := fun i F' L' H' S d t k hd v H'' ⟨e, e2⟩ => by
    subst e e2
    have hi : i < n := by have := (List.getElem?_eq_some_iff.mp hd).1; simpa [rngItems] using this
    have : d = .int (lo + i) := by simpa [rngItems, List.getElem?_map, List.getElem?_range hi] using hd.symm
    subst this
    exact ⟨F', Ext.refl _ _ _, k, .int _⟩
  stop := fun i F' L' H' S t k hi => by simpa [Itr, rngItems] using hi
theorem w_scr {F : Hp} {L : List Addr} {H : Hp} {p : Addr} {ns : List Int} (h : SqL C.K F p (ns.map V.int)) (z : ns.length ≤ sizeLine) : Walk C (tgt fz F L H) (Itl C.K p) (ns.map D.int) where
  len := by rw [List.length_map]; exact z
  go := fun i F' L' H' S t k hi => by
    have hi' : i < (ns.map V.int).length := by simpa using hi
    exact ⟨ns.map V.int, (ns.map V.int)[i], k.sub.sqL (t.sub.1.sqL h), List.getElem?_eq_getElem hi'⟩
  yld := fun i F' L' H' S d t k hd x H'' ⟨e, y⟩ => by
    subst e
    obtain ⟨v, h1, h2⟩ := (ints_rep (C := C) (F := F) (L := L) ns).get hd
    have h3 := y _ (k.sub.sqL (t.sub.1.sqL h))
    rw [h1] at h3
    cases h3
    exact ⟨F', Ext.refl _ _ _, k, h2.up t.sub.1 t.sub.2⟩
  stop := fun i F' L' H' S t k hi => ⟨_, k.sub.sqL (t.sub.1.sqL h), by simpa using hi⟩
/-- a value that is walked: a list, a tuple, a text -/
theorem m_sval (hK : X.K = C.K) (ha : PE X a (tE C W (lvS fz) ma)) : PI X tg a (tI C W fz fun ρ s => (ma ρ s).bind fun x s => R.of (items x) s) := by
  refine PI.imp (PI.or (pi_list ha) (PI.or (pi_tup ha) (pi_str ha))) fun σ H Q ⟨F, L, S, ρ, k, en, q⟩ => ?_
  have q' := q.bind
  cases e : ma ρ S with
  | exc x s => rw [e] at q'; exact .inl ⟨F, L, S, ρ, k, en, by rw [e]; exact q'⟩
  | stuck => rw [e] at q'; exact False.elim q'
  | ok d S' =>
    rw [e] at q'
    cases d with
    | lst ds =>
      refine .inl ⟨F, L, S, ρ, k, en, ?_⟩
      rw [e]
      intro F1 L1 H1 e1 k1 v r1
      have r1 : Vok C F1 L1 H1 H1 (lvS fz) v (.lst ds) := by cases fz <;> exact r1
      obtain ⟨p, vs, rfl, h1, z, r, st⟩ := stay_list k1 r1
      refine ⟨p, rfl, ⟨vs, SqL.of h1⟩, ?_⟩
      rw [hK]
      exact (q' _ _ _ e1 k1).now k1 _ (w_list z r st)
    | tup ds =>
      refine .inr (.inl ⟨F, L, S, ρ, k, en, ?_⟩)
      rw [e]
      intro F1 L1 H1 e1 k1 v r1
      have r1 : Rep C F1 L1 v (.tup ds) := by
        cases fz with
        | true => exact r1
        | false => exact (Pk.tup k1.sub (show Pk C F1 L1 H1 v (.tup ds) from r1)).choose_spec.choose_spec.2.2.2.2
      cases r1 with
      | tup h z r =>
        refine ⟨_, rfl, ⟨_, by rw [hK]; exact k1.sub.sqT h⟩, ?_⟩
        rw [hK]
        exact (q' _ _ _ e1 k1).now k1 _ (w_tup h z r)
    | str z =>
      refine .inr (.inr ⟨F, L, S, ρ, k, en, ?_⟩)
      rw [e]
      intro F1 L1 H1 e1 k1 v r1
      have r1 : Pk C F1 L1 H1 v (.str z) := r1.pk
      exact ⟨z, r1.str.1, (q' _ _ _ e1 k1).now k1 _ (w_str r1.str.2)⟩
    | scr ns =>
      refine .inl ⟨F, L, S, ρ, k, en, ?_⟩
      rw [e]
      intro F1 L1 H1 e1 k1 v r1
      have r1 : Rep C F1 L1 v (.scr ns) := by
        cases fz with
        | true => exact r1
        | false => cases (show Pk C F1 L1 H1 v (.scr ns) from r1) with | rep r => exact r
      cases r1 with
      | scr h z =>
        refine ⟨_, rfl, ⟨_, by rw [hK]; exact k1.sub.sqL h⟩, ?_⟩
        rw [hK]
        exact (q' _ _ _ e1 k1).now k1 _ (w_scr h z)
    | _ => exact .inl ⟨F, L, S, ρ, k, en, by rw [e]; exact fun F1 L1 H1 e1 k1 v r1 => False.elim (q' _ _ _ e1 k1)⟩
/-- range(..) -/
theorem m_srng1 {p pp : Pos} (hg : Gl X "range") (hm : X.mg "range" = none) (hs : starEach [a] X.env = [(false, eval a X.env)]) (ha : PA X [a] (tP C W ms)) (h1 : ∀ ρ s ds s', ms ρ s = .ok ds s' → ds.length = 1) :
    PI X tg (.Call (.Name "range" p) [a] [] pp) (tI C W fz fun ρ s => (ms ρ s).bind fun ds s => R.of (dRng ds) s) := by
  refine PI.imp (pi_range1 hg hm ha hs) fun σ H Q ⟨F, L, S, ρ, k, en, q⟩ => ⟨F, L, S, ρ, k, en, ?_⟩
  have q' := q.bind
  cases e : ms ρ S with
  | exc x s => rw [e] at q'; exact q'
  | stuck => rw [e] at q'; exact q'
  | ok ds S' =>
    rw [e] at q'
    intro F1 L1 H1 e1 k1 vs r1
    obtain ⟨d, hd, q1⟩ := (q' _ _ _ e1 k1).of
    have hl := h1 _ _ _ _ e
    rcases ds with _ | ⟨x, _ | ⟨y, l⟩⟩ <;> (first | (simp at hl; done) | skip)
    cases x <;> simp only [dRng] at hd <;> (first | cases hd | skip)
    rename_i j
    split at hd
    · rename_i h
      cases hd
      simp only [Bool.and_eq_true, decide_eq_true_eq] at h
      cases r1 with
      | cons r1 r2 =>
        cases r2
        have hb : (BIG : Int) = 16777216 := rfl
        exact ⟨j, by rw [r1.int], h.1, by omega, q1.now k1 _ (w_rng (by rw [sizeBIG]; omega))⟩
    · cases hd
theorem m_srng2 {p pp : Pos} (hg : Gl X "range") (hm : X.mg "range" = none) (hs : starEach [a, b] X.env = [(false, eval a X.env), (false, eval b X.env)]) (hs2 : starEach [b] X.env = [(false, eval b X.env)]) (ha : PA X [a, b] (tP C W ms)) (h1 : ∀ ρ s ds s', ms ρ s = .ok ds s' → ds.length = 2) :
    PI X tg (.Call (.Name "range" p) [a, b] [] pp) (tI C W fz fun ρ s => (ms ρ s).bind fun ds s => R.of (dRng ds) s) := by
  refine PI.imp (pi_range2 hg hm ha hs hs2) fun σ H Q ⟨F, L, S, ρ, k, en, q⟩ => ⟨F, L, S, ρ, k, en, ?_⟩
  have q' := q.bind
  cases e : ms ρ S with
  | exc x s => rw [e] at q'; exact q'
  | stuck => rw [e] at q'; exact q'
  | ok ds S' =>
    rw [e] at q'
    intro F1 L1 H1 e1 k1 vs r1
    obtain ⟨d, hd, q1⟩ := (q' _ _ _ e1 k1).of
    have hl := h1 _ _ _ _ e
    rcases ds with _ | ⟨x, _ | ⟨y, _ | ⟨z, l⟩⟩⟩ <;> (first | (simp at hl; done) | skip)
    cases x <;> cases y <;> simp only [dRng] at hd <;> (first | cases hd | skip)
    rename_i i j
    split at hd
    · rename_i h
      cases hd
      simp only [Bool.and_eq_true, decide_eq_true_eq] at h
      cases r1 with
      | cons r1 r2 =>
        cases r2 with
        | cons r2 r3 =>
          cases r3
          exact ⟨i, j, by rw [r1.int, r2.int], ⟨h.1.1.1.1, h.1.1.1.2, h.1.1.2, h.1.2⟩, q1.now k1 _ (w_rng (by rw [sizeBIG]; exact h.2))⟩
    · cases hd
theorem enum_get : ∀ {n i : Nat} {ds : List D} {d : D}, (enumFrom' n ds)[i]? = some d → ∃ e, ds[i]? = some e ∧ d = .tup [.int ((n + i : Nat) : Int), e]
  | n, i, [], d, h => by simp [enumFrom'] at h
  | n, 0, x :: xs, d, h => by
    simp [enumFrom'] at h
    exact ⟨x, rfl, by simp [← h]⟩
  | n, i + 1, x :: xs, d, h => by
    simp only [enumFrom', List.getElem?_cons_succ] at h
    obtain ⟨e, h1, h2⟩ := enum_get h
    exact ⟨e, by simpa using h1, by rw [h2]; congr 4; omega⟩
theorem enum_length : ∀ {n : Nat} {ds : List D}, (enumFrom' n ds).length = ds.length
  | _, [] => rfl
  | _, _ :: _ => by simp [enumFrom', enum_length]
theorem rep_pair {F : Hp} {L : List Addr} {H : Hp} {S : Sto} {T : Addr} {x y : V} {d e : D} (k : Ok C F L H S) (n : H T = none) (h1 : Rep C F L x d) (h2 : Rep C F L y e) : ∃ F', Ext F L H F' L (upd H T (.tup [x, y])) ∧ Ok C F' L (upd H T (.tup [x, y])) S ∧ Rep C F' L (.ref T) (.tup [d, e]) :=
  new_tup k n (by show 2 ≤ sizeLine; decide) (.cons h1 (.cons h2 .nil))
theorem w_enum {F : Hp} {L : List Addr} {H : Hp} {p : Addr} {vs : List V} {ds : List D} (z : vs.length ≤ sizeLine) (r : RepAll C F L vs ds) (st : ∀ F' L' H' S', tgt fz F L H F' L' H' → Ok C F' L' H' S' → H' p = some (.lst vs)) : Walk C (tgt fz F L H) (Ite C.K p) (enumFrom' 0 ds) where
  len := by rw [enum_length, ← r.length]; exact z
  go := fun i F' L' H' S t k hi => by
    have hi' : i < vs.length := by rw [r.length]; rw [enum_length] at hi; exact hi
    exact ⟨vs, vs[i], SqL.of (st _ _ _ _ t k), List.getElem?_eq_getElem hi'⟩
  yld := fun i F' L' H' S d t k hd x H'' ⟨T, y, e1, n, e2, h⟩ => by
    subst e1 e2
    obtain ⟨e, h1, rfl⟩ := enum_get hd
    obtain ⟨v, h2, h3⟩ := r.get h1
    have h4 := h vs (SqL.of (st _ _ _ _ t k))
    rw [h2] at h4
    cases h4
    simp only [Nat.zero_add]
    exact rep_pair k n (.int _) (h3.up t.sub.1 t.sub.2)
  stop := fun i F' L' H' S t k hi => ⟨vs, SqL.of (st _ _ _ _ t k), by rw [r.length]; rw [enum_length] at hi; exact hi⟩
/-- enumerate(list) -/
theorem m_senum {elts : List Expr} {kk : Nat} {p pp tp : Pos} (hK : X.K = C.K) (hg : Gl X "enumerate") (hm : X.mg "enumerate" = none) (hs : starEach [a] X.env = [(false, eval a X.env)]) (ha : PE X a (tE C W (lvS fz) ma)) :
    PI X (.Tuple elts kk tp) (.Call (.Name "enumerate" p) [a] [] pp) (tI C W fz fun ρ s => (ma ρ s).bind fun x s => (R.of (lstItems x) s).bind fun ds s => .ok (enumFrom' 0 ds) s) := by
  refine PI.imp (pi_enum hg hm (pa_cons ha pa_nil hs) hs) fun σ H Q ⟨F, L, S, ρ, k, en, q⟩ => ⟨F, L, S, ρ, k, en, q.bind.imp fun F1 L1 H1 S1 x e1 k1 q1 v r1 => ?_⟩
  obtain ⟨ds, hd, q1⟩ := q1.bind.of
  have q1 := q1.now k1
  have hx : x = .lst ds := by cases x <;> simp_all [lstItems]
  subst hx
  have r1 : Vok C F1 L1 H1 H1 (lvS fz) v (.lst ds) := by cases fz <;> exact r1
  obtain ⟨p, vs, rfl, h1, z, r, st⟩ := stay_list k1 r1
  refine ⟨p, vs, rfl, SqL.of h1, ?_⟩
  rw [hK]
  exact q1.now k1 _ (w_enum z r st)
theorem zip_get : ∀ {i : Nat} {xs ys : List D} {d : D}, (zipD xs ys)[i]? = some d → ∃ a b, xs[i]? = some a ∧ ys[i]? = some b ∧ d = .tup [a, b]
  | i, [], ys, d, h => by simp [zipD] at h
  | i, x :: xs, [], d, h => by simp [zipD] at h
  | 0, x :: xs, y :: ys, d, h => by
    simp [zipD] at h
    exact ⟨x, y, rfl, rfl, h.symm⟩
  | i + 1, x :: xs, y :: ys, d, h => by
    simp only [zipD, List.getElem?_cons_succ] at h
    obtain ⟨a, b, h1, h2, h3⟩ := zip_get h
    exact ⟨a, b, by simpa using h1, by simpa using h2, h3⟩
theorem zip_length : ∀ {xs ys : List D}, (zipD xs ys).length = min xs.length ys.length
  | [], _ => by simp [zipD]
  | _ :: _, [] => by simp [zipD]
  | _ :: _, _ :: _ => by simp only [zipD, List.length_cons, zip_length]; omega
theorem w_zip {F : Hp} {L : List Addr} {H : Hp} {p p' : Addr} {vs vs' : List V} {ds ds' : List D} (z : vs.length ≤ sizeLine) (r : RepAll C F L vs ds) (r' : RepAll C F L vs' ds') (st : ∀ F' L' H' S', tgt fz F L H F' L' H' → Ok C F' L' H' S' → H' p = some (.lst vs)) (st' : ∀ F' L' H' S', tgt fz F L H F' L' H' → Ok C F' L' H' S' → H' p' = some (.lst vs')) :
    Walk C (tgt fz F L H) (Itz C.K p p') (zipD ds ds') where
  len := by rw [zip_length, ← r.length]; omega
  go := fun i F' L' H' S t k hi => by
    rw [zip_length] at hi
    have h1 : i < vs.length := by rw [r.length]; omega
    have h2 : i < vs'.length := by rw [r'.length]; omega
    exact ⟨vs, vs', vs[i], vs'[i], SqL.of (st _ _ _ _ t k), SqL.of (st' _ _ _ _ t k), List.getElem?_eq_getElem h1, List.getElem?_eq_getElem h2⟩
  yld := fun i F' L' H' S d t k hd x H'' ⟨T, y, y', e1, n, e2, h, h'⟩ => by
    subst e1 e2
    obtain ⟨u, w, h1, h1', rfl⟩ := zip_get hd
    obtain ⟨v, h2, h3⟩ := r.get h1
    obtain ⟨v', h2', h3'⟩ := r'.get h1'
    have h4 := h vs (SqL.of (st _ _ _ _ t k))
    have h4' := h' vs' (SqL.of (st' _ _ _ _ t k))
    rw [h2] at h4
    rw [h2'] at h4'
    cases h4
    cases h4'
    exact rep_pair k n (h3.up t.sub.1 t.sub.2) (h3'.up t.sub.1 t.sub.2)
  stop := fun i F' L' H' S t k hi => ⟨vs, vs', SqL.of (st _ _ _ _ t k), SqL.of (st' _ _ _ _ t k), by rw [zip_length] at hi; rw [r.length, r'.length]; omega⟩
/-- zip(list, list) -/
theorem m_szip {elts : List Expr} {kk : Nat} {p pp tp : Pos} (hK : X.K = C.K) (hg : Gl X "zip") (hm : X.mg "zip" = none) (hs : starEach [a, b] X.env = (false, eval a X.env) :: starEach [b] X.env) (hs2 : starEach [b] X.env = [(false, eval b X.env)]) (ha : PE X a (tE C W (lvS fz) ma)) (hb : PE X b (tE C W (lvS fz) mb)) :
    PI X (.Tuple elts kk tp) (.Call (.Name "zip" p) [a, b] [] pp) (tI C W fz fun ρ s => (ma ρ s).bind fun x s => (mb ρ s).bind fun y s => (R.of (lstItems x) s).bind fun xs s => (R.of (lstItems y) s).bind fun ys s => .ok (zipD xs ys) s) := by
  refine PI.imp (pi_zip hg hm (pa_cons ha (pa_cons hb pa_nil hs2) hs) hs (by rw [hs2]; rfl)) fun σ H Q ⟨F, L, S, ρ, k, en, q⟩ => ⟨F, L, S, ρ, k, en, q.bind.imp fun F1 L1 H1 S1 x e1 k1 q1 v r1 => ?_⟩
  refine ⟨F1, L1, S1, ρ, k1, en.ext e1, q1.bind.imp fun F2 L2 H2 S2 y e2 k2 q2 w r2 => ?_⟩
  obtain ⟨ds, hd, q2⟩ := q2.bind.of
  obtain ⟨es, he, q2⟩ := (q2.now k2).bind.of
  have q2 := q2.now k2
  have hx : x = .lst ds := by cases x <;> simp_all [lstItems]
  have hy : y = .lst es := by cases y <;> simp_all [lstItems]
  subst hx hy
  have r1 : Vok C F2 L2 H2 H2 (lvS fz) v (.lst ds) := by
    cases fz with
    | true => exact Rep.up e2.ff e2.ll (show Rep C F1 L1 v (.lst ds) from r1)
    | false => exact Pk.ext (show Pk C F1 L1 H1 v (.lst ds) from r1) e2
  have r2 : Vok C F2 L2 H2 H2 (lvS fz) w (.lst es) := by cases fz <;> exact r2
  obtain ⟨p, vs, rfl, h1, z, r, st⟩ := stay_list k2 r1
  obtain ⟨p', vs', rfl, h1', z', r', st'⟩ := stay_list k2 r2
  refine ⟨p, p', vs, vs', rfl, SqL.of h1, SqL.of h1', ?_⟩
  rw [hK]
  exact q2.now k2 _ (w_zip z r r' st st')
end
end MP

/-! MP: targets, comprehensions. -/
namespace MP
open PySem PySem.Spec PyProof.Rows L2
section
variable {C : Cn} {F F' : Hp} {L L' : List Addr} {H H' : Hp} {ρ : Env'} {σ : Sg}
theorem EnvOk.setI {i : Nat} {v : V} {d : D} (en : EnvOk C F L H ρ σ) (r : Rep C F L v d) : EnvOk C F L H (setI ρ i d) (σ.set i (some v)) where
  len := by unfold MP.setI; rw [List.length_set, List.length_set]; exact en.len
  slot := fun j z x h1 h2 => by
    unfold MP.setI at h1
    by_cases hj : i = j
    · subst hj
      rw [List.getElem?_set_self' ] at h1 h2
      cases e : ρ[i]? with
      | none => rw [e] at h1; cases h1
      | some w =>
        cases e' : σ[i]? with
        | none => rw [e'] at h2; cases h2
        | some w' =>
          rw [e] at h1; rw [e'] at h2
          cases h1; cases h2
          exact ⟨v, rfl, r⟩
    · rw [List.getElem?_set_ne hj] at h1 h2
      exact en.slot j z x h1 h2
  sep := fun j k d e v h1 h2 h3 h4 => by
    unfold MP.setI at h1 h2
    have hj : i ≠ j := by
      rintro rfl
      rw [List.getElem?_set_self'] at h1
      cases e : ρ[i]? <;> rw [e] at h1 <;> cases h1
    have hk : i ≠ k := by
      rintro rfl
      rw [List.getElem?_set_self'] at h2
      cases e : ρ[i]? <;> rw [e] at h2 <;> cases h2
    rw [List.getElem?_set_ne hj] at h1 h3
    rw [List.getElem?_set_ne hk] at h2 h4
    exact en.sep j k d e v h1 h2 h3 h4
theorem EnvOk.no {i : Nat} {x : Option V} (en : EnvOk C F L H ρ σ) : EnvOk C F L H (ρ.set i .no) (σ.set i x) where
  len := by rw [List.length_set, List.length_set]; exact en.len
  slot := fun j z x h1 h2 => by
    by_cases hj : i = j
    · subst hj
      rw [List.getElem?_set_self'] at h1
      cases e : ρ[i]? with
      | none => rw [e] at h1; cases h1
      | some w => rw [e] at h1; cases h1; trivial
    · rw [List.getElem?_set_ne hj] at h1 h2
      exact en.slot j z x h1 h2
  sep := fun j k d e v h1 h2 h3 h4 => by
    have hj : i ≠ j := by
      rintro rfl
      rw [List.getElem?_set_self'] at h1
      cases e : ρ[i]? <;> rw [e] at h1 <;> cases h1
    have hk : i ≠ k := by
      rintro rfl
      rw [List.getElem?_set_self'] at h2
      cases e : ρ[i]? <;> rw [e] at h2 <;> cases h2
    rw [List.getElem?_set_ne hj] at h1 h3
    rw [List.getElem?_set_ne hk] at h2 h4
    exact en.sep j k d e v h1 h2 h3 h4
theorem EnvOk.wipe (en : EnvOk C F L H ρ σ) : ∀ vs : List Nat, EnvOk C F L H (wipeE ρ vs) (L2.wipe σ vs)
  | [] => en
  | i :: is => by unfold wipeE L2.wipe; exact (EnvOk.wipe en is).no
theorem set_wipe {i : Nat} {v : Option V} : ∀ {vs : List Nat}, i ∈ vs → ∀ σ : Sg, L2.wipe (σ.set i v) vs = L2.wipe σ vs
  | [], h, _ => by simp at h
  | j :: js, h, σ => by
    unfold L2.wipe
    by_cases hj : i ∈ js
    · rw [set_wipe hj]
    · have e : i = j := by simpa [hj] using h
      subst e
      have : ∀ (js : List Nat) (σ : Sg), i ∉ js → L2.wipe (σ.set i v) js = (L2.wipe σ js).set i v := by
        intro js
        induction js with
        | nil => intro σ _; rfl
        | cons k ks ih =>
          intro σ hk
          unfold L2.wipe
          rw [ih σ (fun z => hk (List.mem_cons_of_mem _ z)), List.set_comm]
          intro z; exact hk (by simp [z])
      rw [this js σ hj, List.set_set]
theorem wipe_wipe (σ : Sg) : ∀ vs ws : List Nat, (∀ i ∈ vs, i ∈ ws) → L2.wipe (L2.wipe σ vs) ws = L2.wipe σ ws
  | [], _, _ => rfl
  | i :: is, ws, h => by
    show L2.wipe ((L2.wipe σ is).set i none) ws = _
    rw [set_wipe (h i List.mem_cons_self), wipe_wipe σ is ws fun j hj => h j (List.mem_cons_of_mem _ hj)]
/-- a target's reading -/
def gsOf : List Nat → TGs
  | [] => gNil
  | i :: is => gCons (gName i) (gsOf is)
def gOf (K : PySem.W.Frag) : Tg → TG
  | .one i => gName i
  | .tup is => gTup K is.length (gsOf is)
def tgIn (vs : List Nat) : Tg → Prop
  | .one i => i ∈ vs
  | .tup is => ∀ i ∈ is, i ∈ vs
theorem gs_ok : ∀ {is : List Nat} {xs : List V} {ds : List D} {ρ : Env'} {σ : Sg} {Q : Sg → Hp → Prop}, RepAll C F L xs ds → ds.length = is.length → EnvOk C F L H ρ σ →
    (∀ σ', EnvOk C F L H (setAll ρ is ds) σ' → (∀ vs, (∀ i ∈ is, i ∈ vs) → L2.wipe σ' vs = L2.wipe σ vs) → Q σ' H) → gsOf is xs σ H Q
  | [], _, _, ρ, σ, Q, .nil, _, en, q => ⟨rfl, q σ en fun _ _ => rfl⟩
  | i :: is, _, _, ρ, σ, Q, .cons r t, hl, en, q => by
    refine ⟨_, _, rfl, gs_ok t (by simpa using hl) (en.setI (i := i) r) fun σ' e' w => q σ' e' fun vs h => ?_⟩
    rw [w vs fun j hj => h j (List.mem_cons_of_mem _ hj), set_wipe (h i List.mem_cons_self)]
  | [], _, _, _, _, _, .cons _ _, hl, _, _ => by simp at hl
  | _ :: _, _, _, _, _, _, .nil, hl, _, _ => by simp at hl
theorem g_ok {S : Sto} {tg : Tg} {x : V} {d : D} {ρ' : Env'} {Q : Sg → Hp → Prop} (k : Ok C F L H S) (r : Rep C F L x d) (h : bindTg ρ tg d = some ρ') (en : EnvOk C F L H ρ σ)
    (q : ∀ σ', EnvOk C F L H ρ' σ' → (∀ vs, tgIn vs tg → L2.wipe σ' vs = L2.wipe σ vs) → Q σ' H) : gOf C.K tg x σ H Q := by
  cases tg with
  | one i =>
    cases h
    exact q _ (en.setI r) fun vs h => set_wipe h σ
  | tup is =>
    cases d <;> simp only [bindTg] at h <;> (first | cases h | skip)
    split at h
    · rename_i hl
      cases h
      cases r with
      | tup hs z t => exact ⟨_, _, rfl, k.sub.sqT hs, by rw [t.length, hl], gs_ok t hl en q⟩
    · cases h
end
/-! ### a list comprehension -/
abbrev W0 : WX := fun _ _ _ _ => False
section
variable {C : Cn} {W : WX} {σ : Sg} {F : Hp} {L : List Addr} {H : Hp} {α β γ : Type}
theorem R.bind_assoc (r : R α) (f : α → Sto → R β) (g : β → Sto → R γ) : (r.bind f).bind g = r.bind fun a s => (f a s).bind g := by cases r <;> rfl
theorem Rn.nox {σ' : Sg} {r : R α} {P : Hp → List Addr → Hp → Sto → α → Prop} (h : Rn C W σ F L H r.nox P) : Rn C W0 σ' F L H r P := by
  cases r with
  | ok a s => exact h
  | exc x s => exact False.elim h
  | stuck => exact False.elim h
end
section
variable {C : Cn} {F : Hp} {L : List Addr} {H : Hp} {S : Sto} {p : Addr} {o : HO}
theorem Ok.updNew (k : Ok C F L H S) (f : F p = none) (l : p ∉ L) : Ok C F L (upd H p o) S where
  sub := fun a u e => by
    have z : a ≠ p := by rintro rfl; rw [f] at e; cases e
    rw [upd_ne z]; exact k.sub a u e
  fl := k.fl
  nd := k.nd
  len := k.len
  cells := fun m c e => by
    obtain ⟨a, h1, h2⟩ := k.cells m c e
    refine ⟨a, h1, h2.up (Sub.refl _) (List.prefix_refl _) ?_⟩
    have z : a ≠ p := by rintro rfl; exact l (List.mem_of_getElem? h1)
    rw [upd_ne z]
theorem Ext.updNew {F1 : Hp} {L1 : List Addr} {H1 : Hp} (e : Ext F L H F1 L1 H1) (n : H p = none) : Ext F L H F1 L1 (upd H1 p o) where
  ff := e.ff
  ll := e.ll
  keep := fun a u h z => by rw [upd_ne (ne_of_none h n)]; exact e.keep a u h z
  there := fun a h z => by
    by_cases ha : a = p
    · subst ha; rw [upd_same]; simp
    · rw [upd_ne ha]; exact e.there a h z
  nF := e.nF
  nL := e.nL
end
section
variable {C : Cn} {W : WX} {X : Cx} {elt tg iter : Expr} {ifs : List Expr} {scope : Scope} {own : List (Str × Nat)} {pos : Pos} {msrc : Env' → Sto → R (List D)} {tgt' : Tg} {mif : Env' → Sto → R Bool} {me : Env' → Sto → R D}
/-- one turn of it -/
def turnF (own : List Nat) (tg : Tg) (mif : Env' → Sto → R Bool) (me : Env' → Sto → R D) (ρ : Env') (d : D) (s : Sto) : R (Option D) :=
  (R.of (bindTg (wipeE ρ own) tg d) s).bind fun ρ' s => (mif ρ' s).bind fun t s => if t then (me ρ' s).bind fun e s => .ok (some e) s else .ok none s
theorem Rn.split {σ σ' : Sg} {F F' : Hp} {L L' : List Addr} {H H' : Hp} {α β : Type} {r : R α} {g : α → Sto → R β} {P : Hp → List Addr → Hp → Sto → β → Prop} (h : Rn C W σ F L H (r.nox.bind g) P) : Rn C W0 σ' F' L' H' r (fun _ _ _ S3 o => Rn C W σ F L H (g o S3) P) := by
  cases r with
  | ok a s => exact fun _ _ _ _ _ => h
  | exc x s => exact False.elim h
  | stuck => exact False.elim h
theorem lc_read {σ : Sg} {H : Hp} {Q : VK} {vs : List Nat} (hin : tgIn vs tgt') (q : tE C W .fr (fun ρ s => (msrc ρ s).bind fun ds s => (compLoop (turnF vs tgt' mif me ρ) ds s).bind fun es s => .ok (.lst es) s) σ H Q) : tLc (tI C W false msrc) (gOf C.K tgt') (tT C W0 mif) (tE C W0 .rep me) vs σ H Q := by
  obtain ⟨F, L, S, ρ, k, en, q⟩ := q
  refine ⟨F, L, S, ρ, k, en, q.bind.imp fun F1 L1 H1 S1 ds e1 k1 q1 J hJ => ?_⟩
  intro A nA
  have en1 := en.ext e1
  -- the invariant
  refine ⟨fun i m H' => m = ds.length - i ∧ i ≤ ds.length ∧ ∃ F' L' S' acc done, Ext F1 L1 H1 F' L' H' ∧ Ok C F' L' H' S' ∧ H' A = some (.lst acc) ∧ F' A = none ∧ A ∉ L' ∧ RepAll C F' L' acc done ∧ acc.length ≤ i ∧
    Rn C W σ F1 L1 H1 ((compLoop (turnF vs tgt' mif me ρ) (ds.drop i) S').bind fun es s => .ok (.lst (done ++ es)) s) (fun F' L' H' _ d => ∀ v, Vok C F' L' H H' .fr v d → Q v H'), ⟨ds.length, by simp, Nat.zero_le _, F1, L1, S1, [], [], ?_⟩, ?_⟩
  · refine ⟨(Ext.refl _ _ _).laid nA, k1.laid nA, upd_same, k1.notF nA, k1.notL nA, .nil, Nat.le_refl _, ?_⟩
    rw [List.drop_zero]
    exact q1
  · rintro i m H' ⟨rfl, hi, F', L', S', acc, done, x1, k', hA, fA, lA, racc, hacc, q'⟩
    by_cases hlt : i < ds.length
    · refine .inr ⟨hJ.go i F' L' H' S' (tgt.of x1) k' hlt, fun H2 => i + 1 ≤ ds.length ∧ ∃ F' L' S' acc done, Ext F1 L1 H1 F' L' H2 ∧ Ok C F' L' H2 S' ∧ H2 A = some (.lst acc) ∧ F' A = none ∧ A ∉ L' ∧ RepAll C F' L' acc done ∧ acc.length ≤ i + 1 ∧
        Rn C W σ F1 L1 H1 ((compLoop (turnF vs tgt' mif me ρ) (ds.drop (i + 1)) S').bind fun es s => .ok (.lst (done ++ es)) s) (fun F' L' H' _ d => ∀ v, Vok C F' L' H H' .fr v d → Q v H'), fun H2 h => ⟨ds.length - (i + 1), by omega, rfl, h⟩, fun x H2 y => ?_⟩
      have hd : ds[i]? = some ds[i] := List.getElem?_eq_getElem hlt
      obtain ⟨F2, x2, k2, r2⟩ := hJ.yld i F' L' H' S' ds[i] (tgt.of x1) k' hd x H2 y
      have hdrop : ds.drop i = ds[i] :: ds.drop (i + 1) := List.drop_eq_getElem_cons hlt
      rw [hdrop] at q'
      simp only [compLoop, R.bind_assoc] at q'
      have q3 := Rn.split (σ' := σ) (F' := F2) (L' := L') (H' := H2) q'
      rw [turnF] at q3
      obtain ⟨ρ', hρ, q4⟩ := q3.bind.of
      have q4 := q4.now k2
      have keepA : ∀ {F3 : Hp} {L3 : List Addr} {H3 : Hp}, Ext F' L' H' F3 L3 H3 → H3 A = some (.lst acc) ∧ F3 A = none ∧ A ∉ L3 := fun {F3 L3 H3} e => by
        refine ⟨e.keep _ _ hA lA, ?_, fun z => (e.nL _ z).elim lA fun w => by rw [hA] at w; cases w⟩
        cases q : F3 A with
        | none => rfl
        | some o => rcases e.nF A o q with w | w
                    · rw [fA] at w; cases w
                    · rw [hA] at w; cases w
      refine g_ok k2 r2 hρ (((en1.ext x1).ext x2).wipe vs) fun σ2 en2 hw => ⟨by rw [hw _ hin, wipe_wipe σ _ _ fun _ h => h], ?_⟩
      have q4' : Rn C W0 σ2 F2 L' H2 (mif ρ' S') _ := Rn.wish q4.bind (fun _ _ _ z => z)
      refine ⟨F2, L', S', ρ', k2, en2, q4'.imp fun F3 L3 H3 S3 t e3 k3 q5 => ?_⟩
      cases t with
      | false =>
        refine iteF ⟨hlt, F3, L3, S3, acc, done, (x1.trans x2).trans e3, k3, (keepA (x2.trans e3)).1, (keepA (x2.trans e3)).2.1, (keepA (x2.trans e3)).2.2, racc.up (x2.trans e3).ff (x2.trans e3).ll, by omega, ?_⟩
        have q6 := q5.now k3
        simpa only [R.bind_ok] using q6
      | true =>
        have q5' : Rn C W0 σ2 F3 L3 H3 (me ρ' S3) _ := Rn.wish q5.bind (fun _ _ _ z => z)
        refine iteT ⟨F3, L3, S3, ρ', k3, en2.ext e3, q5'.imp fun F4 L4 H4 S4 e e4 k4 q6 v r4 => ?_⟩
        have ex := (x2.trans e3).trans e4
        obtain ⟨a1, a2, a3⟩ := keepA ex
        have hz : acc.length < sizeLine := by have := hJ.len; omega
        refine ⟨acc, a1, hz, hlt, F4, L4, S4, acc ++ [v], done ++ [e], ?_, k4.updNew a2 a3, upd_same, a2, a3, (racc.up ex.ff ex.ll).snoc r4, by rw [List.length_append]; simp; omega, ?_⟩
        · exact (((x1.trans x2).trans e3).trans e4).updNew nA
        · have q7 := q6.now k4
          simp only [R.bind_ok] at q7
          simpa only [List.append_assoc, List.singleton_append] using q7
    · have e : i = ds.length := by omega
      subst e
      rw [List.drop_length] at q'
      simp only [compLoop, R.bind_ok, List.append_nil] at q'
      exact .inl ⟨hJ.stop _ F' L' H' S' (tgt.of x1) k' (Nat.le_refl _), q' _ _ _ x1 k' _ (Vok.fr (.lst (e1.none_of nA) hA (by have := hJ.len; omega) fA lA racc))⟩
theorem m_comp (hK : X.K = C.K) (hc : X.calm = true) (hN : X.N.Nodup) (hi : PI X tg iter (tI C W false msrc)) (ok : BlkOk X.N X.env.scope scope own)
    (hin : tgIn (own.map (·.2)) tgt')
    (hg : ∀ (s : Shared) (H : Hp) (A : Addr) (cl : List (Str × Addr)) (fp : List Addr), PG (X.blk s H scope (compEnvC scope cl A X.env) fp) tg (gOf C.K tgt'))
    (ht : ∀ (s : Shared) (H : Hp) (A : Addr) (cl : List (Str × Addr)) (fp : List Addr), PTs (X.blk s H scope (compEnvC scope cl A X.env) fp) ifs (tT C W0 mif))
    (he : ∀ (s : Shared) (H : Hp) (A : Addr) (cl : List (Str × Addr)) (fp : List Addr), PE (X.blk s H scope (compEnvC scope cl A X.env) fp) elt (tE C W0 .rep me)) (hs : ∀ x, foldedSetIterable iter X.env x = pure x) :
    PE X (.ListComp elt [⟨tg, iter, ifs, 0⟩] scope pos) (tE C W .fr fun ρ s => (msrc ρ s).bind fun ds s => (compLoop (turnF (own.map (·.2)) tgt' mif me ρ) ds s).bind fun es s => .ok (.lst es) s) := by
  exact PE.imp (pe_lc hc hN hi ok hg ht he hs) fun σ H Q q => lc_read hin q
end
end MP

/-! MP: isinstance, fields, methods, dicts. -/
namespace MP
open PySem PySem.Spec PyProof.Rows L2
def tyName : Ty → String
  | .int => "int" | .bool => "bool" | .str => "str" | .tup => "tuple" | .lst => "list" | .dic => "dict"
def dTy : D → Option String
  | .non => some "NoneType" | .bl _ => some "bool" | .int _ => some "int" | .str _ => some "str" | .tup _ => some "tuple" | .lst _ => some "list" | .dic _ => some "dict"
  | _ => none
theorem kit_tab : ∀ n ∈ ["NoneType", "bool", "int", "str", "tuple", "list", "dict"], ∀ t ∈ ["int", "bool", "str", "tuple", "list", "dict"], kitB n t = some (n == t || (n == "bool" && t == "int")) := by decide +kernel
theorem kit_of {d : D} {n : String} (t : Ty) (h : dTy d = some n) : kitB n (tyName t) = some (isTy t d) := by
  have hn : n ∈ ["NoneType", "bool", "int", "str", "tuple", "list", "dict"] := by
    cases d <;> simp only [dTy, Option.some.injEq] at h <;> (first | cases h | skip) <;> simp
  have ht : tyName t ∈ ["int", "bool", "str", "tuple", "list", "dict"] := by cases t <;> simp [tyName]
  rw [kit_tab n hn _ ht]
  cases d <;> simp only [dTy, Option.some.injEq] at h <;> (first | cases h | skip) <;> cases t <;> simp [tyName, isTy]
section
variable {C : Cn} {W : WX} {X : Cx} {lv : Lv} {a b c : Expr} {pos : Pos} {ma mb mc : Env' → Sto → R D} {es : List Expr} {ms : Env' → Sto → R (List D)}
theorem tyx {F : Hp} {L : List Addr} {H : Hp} {S : Sto} {v : V} {d : D} {n : String} (k : Ok C F L H S) (x : Pk C F L H v d) (h : dTy d = some n) : TyX C.K H v (.type n) := by
  cases d <;> simp only [dTy, Option.some.injEq] at h <;> (first | cases h | skip)
  · rw [x.non]; exact .base .non
  · rw [x.bl]; exact .base (.bl _)
  · rw [x.int]; exact .base (.int _)
  · rw [x.str.1]; exact .base (.str _)
  · obtain ⟨p, vs, rfl, h1, _, _, _⟩ := x.tup k.sub
    rcases h1 with (h1 | ⟨o, h1⟩) | ⟨o, its, m, h1, h2, _⟩
    · exact .base (.tup h1)
    · exact .fTuple h1
    · exact .kTuple h1 h2
  · obtain ⟨p, vs, rfl, h1, _, _⟩ := x.list k.sub
    exact .base (.lst h1)
  · obtain ⟨p, vs, rfl, h1, _, _⟩ := x.dict k.sub
    exact .base (.dK h1)
theorem isTys_some {ts : List Ty} {x d : D} (h : isTys ts x = some d) : d = .bl (ts.any fun t => isTy t x) ∧ ∃ n, dTy x = some n := by
  cases x <;> simp only [isTys, Option.some.injEq] at h <;> (first | cases h | skip) <;> exact ⟨rfl, _, rfl⟩
theorem pe_tyN {x : Str} {n : String} {p : Pos} (hg : Gl X x) (hm : X.mg x = none) (hv : bootBuiltins x = some (.type n)) (hn : x ≠ "__name__") (hd : (x == ("__debug__" : Str)) = false) : PE X (.Name x p) (tC (.ty n)) := pe_bltn hg hm hv rfl hn hd
/-- isinstance(a, T) -/
theorem m_isi1 {t : Ty} {p p2 pp : Pos} (hK : X.K = C.K) (hg : Gl X "isinstance") (hm : X.mg "isinstance" = none) (hT : PE X b (tC (.ty (tyName t))))
    (he : starEach [a, b] X.env = [(false, eval a X.env), (false, eval b X.env)]) (he2 : starEach [b] X.env = [(false, eval b X.env)]) (ha : PE X a (tE C W .pk ma)) :
    PE X (.Call (.Name "isinstance" p) [a, b] [] pp) (tE C W .fr fun ρ s => (ma ρ s).bind fun x s => R.of (isTys [t] x) s) := by
  refine PE.imp (pe_callB call_isi hg hm (by decide +kernel) (pa_cons ha (pa_cons hT pa_nil he2) (by rw [he, he2])) (by decide) (by decide) (by rw [he, he2]) (by rw [he2]; rfl)) fun σ H Q ⟨F, L, S, ρ, k, en, q⟩ => ⟨F, L, S, ρ, k, en, q.bind.imp fun F1 L1 H1 S1 x e1 k1 q1 v r1 => ?_⟩
  obtain ⟨d, h, q1⟩ := q1.of
  obtain ⟨rfl, n, hn⟩ := isTys_some h
  refine ⟨v, .ty (tyName t), .type n, .type (tyName t), isTy t x, rfl, .ty _, by rw [hK]; exact tyx k1 r1 hn, by rw [hK]; exact kit_ty (kit_of t hn), ?_⟩
  simp only [List.any_cons, List.any_nil, Bool.or_false] at q1
  exact q1.now k1 _ (Vok.re rfl (.bl _))
/-- isinstance(a, (T, U)) -/
theorem m_isi2 {t u : Ty} {p p2 pp : Pos} {x1 : Nat} (hK : X.K = C.K) (hg : Gl X "isinstance") (hm : X.mg "isinstance" = none) (hT : PE X b (tC (.ty (tyName t)))) (hU : PE X c (tC (.ty (tyName u))))
    (he : starEach [a, .Tuple [b, c] x1 p2] X.env = [(false, eval a X.env), (false, eval (.Tuple [b, c] x1 p2) X.env)]) (heb : starEach [b, c] X.env = (false, eval b X.env) :: starEach [c] X.env) (hec : starEach [c] X.env = [(false, eval c X.env)]) (ha : PE X a (tE C W .pk ma)) :
    PE X (.Call (.Name "isinstance" p) [a, .Tuple [b, c] x1 p2] [] pp) (tE C W .fr fun ρ s => (ma ρ s).bind fun x s => R.of (isTys [t, u] x) s) := by
  refine PE.imp (pe_callB call_isiT hg hm (by decide +kernel) (pa_cons ha (pa_cons (pe_tup (pa_cons hT (pa_cons hU pa_nil hec) heb)) pa_nil rfl) (by rw [he]; rfl)) (by decide) (by decide) (by rw [he]; rfl) rfl) fun σ H Q ⟨F, L, S, ρ, k, en, q⟩ => ⟨F, L, S, ρ, k, en, q.bind.imp fun F1 L1 H1 S1 x e1 k1 q1 v r1 => ?_⟩
  obtain ⟨d, h, q1⟩ := q1.of
  obtain ⟨rfl, n, hn⟩ := isTys_some h
  refine ⟨by show 2 ≤ sizeLine; decide, fun P nP => ?_⟩
  have eL := (Ext.refl F1 L1 H1).laid (p := P) (o := .tup [.ty (tyName t), .ty (tyName u)]) nP
  have kL := k1.laid (p := P) (o := .tup [.ty (tyName t), .ty (tyName u)]) nP
  refine ⟨v, P, [.ty (tyName t), .ty (tyName u)], .type n, [.type (tyName t), .type (tyName u)], isTy t x || isTy u x, rfl, upd_same, .cons (.ty _) (.cons (.ty _) .nil), by rw [hK]; exact tyx kL (Pk.ext r1 eL) hn, ?_, ?_⟩
  · rw [hK]
    have h1 := kit_ty (K := C.K) (kit_of t hn)
    have h2 := kit_ty (K := C.K) (kit_of u hn)
    simp only [PySem.W.kitAny, h1, h2]
    cases isTy t x <;> cases isTy u x <;> rfl
  · simp only [List.any_cons, List.any_nil, Bool.or_false] at q1
    exact q1 _ _ _ eL kL _ (Vok.re rfl (.bl _))
/-! ### fields of a program -/
def fldName : Fld → Str
  | .marks => "marks" | .rows => "rows" | .shown => "shown"
structure PrgOk (C : Cn) : Prop where
  cls : Cls C.K C.cP
  no : ∀ f : Fld, NoAttr C.K C.cP (fldName f)
theorem m_fld {f : Fld} (hK : X.K = C.K) (po : PrgOk C) (hab : attributeBase a (fldName f) X.env (eval a X.env) = eval a X.env) (ha : PE X a (tE C W .pk ma)) :
    PE X (.Attribute a (fldName f) pos) (tE C W .rep fun ρ s => (ma ρ s).bind fun x s => R.of (dFld f x) s) := by
  refine PE.imp (pe_fld ha hab) fun σ H Q ⟨F, L, S, ρ, k, en, q⟩ => ⟨F, L, S, ρ, k, en, q.bind.imp fun F1 L1 H1 S1 x e1 k1 q1 v r1 => ?_⟩
  obtain ⟨d, h, q1⟩ := q1.of
  cases x <;> (first | (cases f <;> cases h; done) | skip)
  have r1 : Pk C F1 L1 H1 v _ := r1
  cases r1 with
  | rep r =>
    cases r with
    | prg hF hT z r s1 s2 =>
      have hH := k1.sub _ _ hF
      rw [hK]
      cases f with
      | marks => cases h; exact ⟨_, _, _, _, .str _, rfl, hH, po.cls, po.no .marks, by rfl, q1.now k1 _ (.str _ s1)⟩
      | rows => cases h; exact ⟨_, _, _, _, .ref _, rfl, hH, po.cls, po.no .rows, by rfl, q1.now k1 _ (.tup hT z r)⟩
      | shown => cases h; exact ⟨_, _, _, _, .str _, rfl, hH, po.cls, po.no .shown, by rfl, q1.now k1 _ (.str _ s2)⟩
/-! ### methods of texts, of a written tuple -/
theorem m_join {p apos cpos : Pos} {e : Expr} (hK : X.K = C.K) (hbase : attributeBase a "join" X.env (eval a X.env) = eval a X.env) (hline : (apos.endLine == cpos.line) = true) (hs : starEach [e] X.env = [(false, eval e X.env)])
    (ha : PE X a (tE C W .pk ma)) (hb : PE X e (tE C W .pk mb)) : PE X (.Call (.Attribute a "join" apos) [e] [] cpos) (tE C W .fr fun ρ s => (ma ρ s).bind fun x s => (R.of (asStr x) s).bind fun z s => (mb ρ s).bind fun y s => R.of (dJoin z y) s) := by
  refine PE.imp (pe_bm PySem.F.plainAttrs_str PySem.F.slot_str_join PySem.F.type_str_join mt_join ha (pa_cons hb pa_nil hs) hbase (by rw [hs]; rfl) hline (by rw [hs]; rfl) rfl) fun σ H Q ⟨F, L, S, ρ, k, en, q⟩ => ⟨F, L, S, ρ, k, en, q.bind.imp fun F1 L1 H1 S1 x e1 k1 q1 v r1 => ?_⟩
  obtain ⟨z, hz, q2⟩ := q1.bind.of
  have hx : x = .str z := by cases x <;> simp_all [asStr]
  subst hx
  have r1 : Pk C F1 L1 H1 v (.str z) := r1
  refine ⟨by rw [r1.str.1]; rfl, F1, L1, S1, ρ, k1, en.ext e1, (q2.now k1).bind.imp fun F2 L2 H2 S2 y e2 k2 q3 w r2 => ?_⟩
  obtain ⟨d, h, q3⟩ := q3.of
  cases y <;> simp only [dJoin] at h <;> (first | cases h | skip)
  rename_i ys
  cases hz : dStrs ys with
  | none => rw [hz] at h; cases h
  | some zs =>
    rw [hz, Option.bind_some] at h
    split at h
    · rename_i hl
      obtain ⟨rfl, hok⟩ := mkStr_some h
      obtain ⟨p, vs, rfl, h1, _, rr⟩ := Pk.list k2.sub r2
      have e3 := dStrs_rep rr hz
      subst e3
      exact ⟨z, p, zs, r1.str.1, rfl, .inl (SqL.of h1), hl, q3.now k2 _ (Vok.re rfl (.str _ hok))⟩
    · cases h
/-- T.index(e), T a written tuple of texts -/
structure TupK (K : PySem.W.Frag) (mg : Str → Option Value) (x : Str) (ys : List Str) : Prop where
  ex : ∃ (p : Addr) (o : Obj) (its : Array Value) (n : Nat), mg x = some (.ref p) ∧ K.lookup p = some o ∧ o.cls = .type "tuple" ∧ o.dict = none ∧ o.data = .seq its n ∧ its.size ≤ sizeLine ∧ Vals (ys.map V.str) its.toList
theorem m_cidx {x : Str} {ys : List Str} {p apos cpos : Pos} (hK : X.K = C.K) (ht : TupK X.K X.mg x ys) (hg : Gl X x) (hd : (x == ("__debug__" : Str)) = false)
    (hline : (apos.endLine == cpos.line) = true) (hs : starEach [a] X.env = [(false, eval a X.env)]) (hbase : attributeBase (.Name x p) "index" X.env (eval (.Name x p) X.env) = eval (.Name x p) X.env)
    (ha : PE X a (tE C W .pk ma)) : PE X (.Call (.Attribute (.Name x p) "index" apos) [a] [] cpos) (tE C W .fr fun ρ s => (ma ρ s).bind fun x s => R.of (dCidx ys x) s) := by
  obtain ⟨ad, o, its, n, hm, hk, hc, hdd, hdt, hz, hv⟩ := ht.ex
  have hT : ∀ H, SqT X.K H ad (ys.map V.str) := fun H => .inr ⟨o, its, n, hk, hc, hdt, hz, hv⟩
  refine PE.imp (pe_bm PySem.F.plainAttrs_tuple PySem.F.slot_tuple_index PySem.F.type_tuple_index mt_tup_index (pe_glob (v := .ref ad) hg hm rfl hd) (pa_cons ha pa_nil hs) hbase (by rw [hs]; rfl) hline (by rw [hs]; rfl) rfl) fun σ H Q ⟨F, L, S, ρ, k, en, q⟩ => ?_
  refine ⟨.inr (.inl ⟨rfl, o, hk, hc, hdd⟩), F, L, S, ρ, k, en, q.bind.imp fun F1 L1 H1 S1 y e1 k1 q1 v r1 => ?_⟩
  obtain ⟨d, h, q1⟩ := q1.of
  cases y <;> simp only [dCidx] at h <;> (first | cases h | skip)
  rename_i z
  split at h
  · rename_i hi
    cases h
    have r1 : Pk C F1 L1 H1 v (.str z) := r1
    refine ⟨ad, ys, z, ys.idxOf z, rfl, by rw [r1.str.1], hT _, ?_, fun m hm e => ?_, q1.now k1 _ (Vok.re rfl (.int _))⟩
    · rw [List.getElem?_eq_getElem hi, List.getElem_idxOf hi]
    · have hlt : m < ys.length := by omega
      have e2 : ys[m] = z := by rw [List.getElem?_eq_getElem hlt] at e; exact Option.some.inj e
      have := List.not_of_lt_findIdx (xs := ys) (p := (· == z)) (i := m) hm
      simp [e2] at this
  · cases h
/-! ### dicts with texts as keys -/
theorem kv_find {F : Hp} {L : List Addr} {z : Str} : ∀ {kvs : List (Key × V)} {ds : List (D × D)}, RepKV C F L kvs ds → (∀ d, (ds.find? fun kv => kv.1.eqv (.str z)).map (·.2) = some d → ∃ v, valV kvs (Sum.inr z) = some v ∧ Rep C F L v d)
  | _, _, .nil, d, h => by simp at h
  | _, _, .cons (x := x) (v := v) s r t, d, h => by
    unfold valV
    rw [List.find?_cons] at h ⊢
    by_cases e : x = z
    · subst e
      simp [D.eqv] at h ⊢
      exact h ▸ r
    · have e1 : (D.str x).eqv (.str z) = false := by simp [D.eqv, e]
      simp only [e1] at h
      have e2 : decide ((Sum.inr x : Key) = Sum.inr z) = false := by simp [e]
      simp only [e2]
      exact kv_find t d h
theorem m_didx (hK : X.K = C.K) (hu : X.A.units + 1 < cLine) (hs : PlainIx b) (hs2 : NoSl b) (ha : PE X a (tE C W .pk ma)) (hb : PE X b (tE C W .pk mb)) :
    PE X (.Subscript a b pos) (tE C W .rep fun ρ s => (ma ρ s).bind fun x s => (mb ρ s).bind fun y s => R.of (dIdx x y) s) := by
  refine PE.imp (PE.or (m_idx (C := C) (W := W) hK hs ha hb) (pe_dget hu ha hb hs2)) fun σ H Q ⟨F, L, S, ρ, k, en, q⟩ => ?_
  dsimp only at q
  cases e : ma ρ S with
  | exc x s => rw [e] at q; exact .inl ⟨F, L, S, ρ, k, en, by dsimp only; rw [e]; exact q⟩
  | stuck => rw [e] at q; exact .inl ⟨F, L, S, ρ, k, en, by dsimp only; rw [e]; exact q⟩
  | ok x S1 =>
    rw [e] at q
    by_cases hx : ∃ kvs, x = .dic kvs
    · obtain ⟨kvs, rfl⟩ := hx
      refine .inr ⟨F, L, S, ρ, k, en, ?_⟩
      rw [e]
      intro F1 L1 H1 e1 k1 v1 r1
      have q1 := q.bind _ _ _ e1 k1
      refine ⟨F1, L1, S1, ρ, k1, en.ext e1, q1.bind.imp fun F2 L2 H2 S2 y e2 k2 q2 v2 r2 => ?_⟩
      obtain ⟨d, h, q3⟩ := q2.of
      have hy : ∃ z, y = .str z := by cases y <;> first | exact ⟨_, rfl⟩ | cases h
      obtain ⟨z, rfl⟩ := hy
      have r1 := Pk.ext (show Pk C F1 L1 H1 v1 (.dic kvs) from r1) e2
      obtain ⟨p, kv, rfl, h1, _, rr⟩ := r1.dict k2.sub
      obtain ⟨v, h2, r3⟩ := kv_find rr d h
      have r2 : Pk C F2 L2 H2 v2 (.str z) := r2
      refine ⟨p, v, rfl, ?_, q3.now k2 _ r3⟩
      rw [r2.str.1, ← h2]
      exact DGet.k (k := Sum.inr z) h1
    · refine .inl ⟨F, L, S, ρ, k, en, ?_⟩
      dsimp only
      rw [e]
      have : ∀ y, dIdx x y = dIdx0 x y := fun y => by cases x <;> first | rfl | (exact absurd ⟨_, rfl⟩ hx)
      simpa only [R.bind_ok, this] using q
/-- {} -/
theorem m_dic0 : PE X (.Dict [] [] pos) (tE C W .fr fun _ s => .ok (.dic []) s) := by
  refine PE.imp pe_dnewK fun σ H Q ⟨F, L, S, ρ, k, en, q⟩ => fun p n => ?_
  exact q _ _ _ ((Ext.refl F L H).laid n) (k.laid n) _ (Vok.fr (.dic n upd_same (Nat.zero_le _) (k.notF n) (k.notL n) .nil))
theorem kv_any {F : Hp} {L : List Addr} {z : Str} : ∀ {kvs : List (Key × V)} {ds : List (D × D)}, RepKV C F L kvs ds → (kvs.any fun kv => decide (kv.1 = (Sum.inr z : Key))) = ds.any fun kv => kv.1.eqv (.str z)
  | _, _, .nil => rfl
  | _, _, .cons s r t => by
    simp only [List.any_cons, kv_any t]
    simp only [D.eqv, Sum.inr.injEq]
    congr 1
theorem kv_map {F : Hp} {L : List Addr} {z : Str} {v : V} {d : D} (r : Rep C F L v d) : ∀ {kvs : List (Key × V)} {ds : List (D × D)}, RepKV C F L kvs ds → RepKV C F L (kvs.map (fun kv => if kv.1 = (Sum.inr z : Key) then (kv.1, v) else kv)) (ds.map (fun kv => if kv.1.eqv (.str z) then (kv.1, d) else kv))
  | _, _, .nil => .nil
  | _, _, .cons (x := x) s r' t => by
    simp only [List.map_cons]
    by_cases e : x = z
    · subst e
      simp only [D.eqv, BEq.rfl, if_true]
      exact .cons s r (kv_map r t)
    · have e1 : (D.str x).eqv (.str z) = false := by simp [D.eqv, e]
      simp only [e1]
      rw [if_neg (by simpa using e)]
      exact .cons s r' (kv_map r t)
theorem kv_snoc {F : Hp} {L : List Addr} {z : Str} {v : V} {d : D} (hz : sOk z = true) (r : Rep C F L v d) : ∀ {kvs : List (Key × V)} {ds : List (D × D)}, RepKV C F L kvs ds → RepKV C F L (kvs ++ [(Sum.inr z, v)]) (ds ++ [(.str z, d)])
  | _, _, .nil => .cons hz r .nil
  | _, _, .cons s r' t => .cons s r' (kv_snoc hz r t)
theorem putK_rep {F : Hp} {L : List Addr} {z : Str} {v : V} {d : D} (hz : sOk z = true) (r : Rep C F L v d) {kvs : List (Key × V)} {ds : List (D × D)} (t : RepKV C F L kvs ds) : RepKV C F L (putK kvs (Sum.inr z) v) (putD ds z d) := by
  unfold putK putD
  rw [kv_any t]
  split
  · exact kv_map r t
  · exact kv_snoc hz r t
theorem putK_len (kvs : List (Key × V)) (k : Key) (v : V) : (putK kvs k v).length ≤ kvs.length + 1 := by
  unfold putK
  split <;> simp
/-- one turn of {k: v for ..} -/
def turnD (own : List Nat) (tg : Tg) (mk mv : Env' → Sto → R D) (ρ : Env') (d : D) (s : Sto) : R (D × D) :=
  (R.of (bindTg (wipeE ρ own) tg d) s).bind fun ρ' s => (mk ρ' s).bind fun k s => (mv ρ' s).bind fun v s => .ok (k, v) s
theorem m_dcomp {tg iter kx vx : Expr} {scope : Scope} {own : List (Str × Nat)} {msrc : Env' → Sto → R (List D)} {tgt' : Tg} {mk mv : Env' → Sto → R D} (hK : X.K = C.K) (hc : X.calm = true) (hN : X.N.Nodup) (hi : PI X tg iter (tI C W false msrc)) (ok : BlkOk X.N X.env.scope scope own)
    (hin : tgIn (own.map (·.2)) tgt')
    (hg : ∀ (s : Shared) (H : Hp) (A : Addr) (cl : List (Str × Addr)) (fp : List Addr), PG (X.blk s H scope (compEnvC scope cl A X.env) fp) tg (gOf C.K tgt'))
    (hk : ∀ (s : Shared) (H : Hp) (A : Addr) (cl : List (Str × Addr)) (fp : List Addr), PE (X.blk s H scope (compEnvC scope cl A X.env) fp) kx (tE C W0 .rep mk))
    (hv : ∀ (s : Shared) (H : Hp) (A : Addr) (cl : List (Str × Addr)) (fp : List Addr), PE (X.blk s H scope (compEnvC scope cl A X.env) fp) vx (tE C W0 .rep mv)) (hs : ∀ x, foldedSetIterable iter X.env x = pure x) :
    PE X (.DictComp kx vx [⟨tg, iter, [], 0⟩] scope pos) (tE C W .fr fun ρ s => (msrc ρ s).bind fun ds s => (dcompLoop (turnD (own.map (·.2)) tgt' mk mv ρ) [] ds s).bind fun es s => .ok (.dic es) s) := by
  refine PE.imp (pe_dc hc hN hi ok hg (fun _ _ _ _ _ => pts_nil) hk hv hs) fun σ H Q ⟨F, L, S, ρ, k, en, q⟩ => ⟨F, L, S, ρ, k, en, q.bind.imp fun F1 L1 H1 S1 ds e1 k1 q1 J hJ => ?_⟩
  intro A nA
  have en1 := en.ext e1
  refine ⟨fun i m H' => m = ds.length - i ∧ i ≤ ds.length ∧ ∃ F' L' S' acc done, Ext F1 L1 H1 F' L' H' ∧ Ok C F' L' H' S' ∧ H' A = some (.dK acc) ∧ F' A = none ∧ A ∉ L' ∧ RepKV C F' L' acc done ∧ acc.length ≤ i ∧
    Rn C W σ F1 L1 H1 ((dcompLoop (turnD (own.map (·.2)) tgt' mk mv ρ) done (ds.drop i) S').bind fun es s => .ok (.dic es) s) (fun F' L' H' _ d => ∀ v, Vok C F' L' H H' .fr v d → Q v H'), ⟨ds.length, by simp, Nat.zero_le _, F1, L1, S1, [], [], ?_⟩, ?_⟩
  · refine ⟨(Ext.refl _ _ _).laid nA, k1.laid nA, upd_same, k1.notF nA, k1.notL nA, .nil, Nat.le_refl _, ?_⟩
    rw [List.drop_zero]
    exact q1
  · rintro i m H' ⟨rfl, hi, F', L', S', acc, done, x1, k', hA, fA, lA, racc, hacc, q'⟩
    by_cases hlt : i < ds.length
    · refine .inr ⟨hJ.go i F' L' H' S' (tgt.of x1) k' hlt, fun H2 => i + 1 ≤ ds.length ∧ ∃ F' L' S' acc done, Ext F1 L1 H1 F' L' H2 ∧ Ok C F' L' H2 S' ∧ H2 A = some (.dK acc) ∧ F' A = none ∧ A ∉ L' ∧ RepKV C F' L' acc done ∧ acc.length ≤ i + 1 ∧
        Rn C W σ F1 L1 H1 ((dcompLoop (turnD (own.map (·.2)) tgt' mk mv ρ) done (ds.drop (i + 1)) S').bind fun es s => .ok (.dic es) s) (fun F' L' H' _ d => ∀ v, Vok C F' L' H H' .fr v d → Q v H'), fun H2 h => ⟨ds.length - (i + 1), by omega, rfl, h⟩, fun x H2 y => ?_⟩
      have hd : ds[i]? = some ds[i] := List.getElem?_eq_getElem hlt
      obtain ⟨F2, x2, k2, r2⟩ := hJ.yld i F' L' H' S' ds[i] (tgt.of x1) k' hd x H2 y
      have hdrop : ds.drop i = ds[i] :: ds.drop (i + 1) := List.drop_eq_getElem_cons hlt
      rw [hdrop] at q'
      simp only [dcompLoop, R.bind_assoc] at q'
      have q3 := Rn.split (σ' := σ) (F' := F2) (L' := L') (H' := H2) q'
      rw [turnD] at q3
      obtain ⟨ρ', hρ, q4⟩ := q3.bind.of
      have q4 := q4.now k2
      have keepA : ∀ {F3 : Hp} {L3 : List Addr} {H3 : Hp}, Ext F' L' H' F3 L3 H3 → H3 A = some (.dK acc) ∧ F3 A = none ∧ A ∉ L3 := fun {F3 L3 H3} e => by
        refine ⟨e.keep _ _ hA lA, ?_, fun z => (e.nL _ z).elim lA fun w => by rw [hA] at w; cases w⟩
        cases q : F3 A with
        | none => rfl
        | some o => rcases e.nF A o q with w | w
                    · rw [fA] at w; cases w
                    · rw [hA] at w; cases w
      refine g_ok k2 r2 hρ (((en1.ext x1).ext x2).wipe (own.map (·.2))) fun σ2 en2 hw => ⟨by rw [hw _ hin, wipe_wipe σ _ _ fun _ h => h], ?_⟩
      simp only [tYes, if_true]
      have q4' : Rn C W0 σ2 F2 L' H2 (mk ρ' S') _ := Rn.wish q4.bind (fun _ _ _ z => z)
      refine ⟨F2, L', S', ρ', k2, en2, q4'.imp fun F3 L3 H3 S3 kd e3 k3 q5 vk rk => ?_⟩
      have q5' : Rn C W0 σ2 F3 L3 H3 (mv ρ' S3) _ := Rn.wish q5.bind (fun _ _ _ z => z)
      refine ⟨F3, L3, S3, ρ', k3, en2.ext e3, q5'.imp fun F4 L4 H4 S4 e e4 k4 q6 v r4 => ?_⟩
      have q7 := q6.now k4
      have ex := (x2.trans e3).trans e4
      obtain ⟨a1, a2, a3⟩ := keepA ex
      have hz : acc.length < sizeLine := by have := hJ.len; omega
      have hk : ∃ z, kd = .str z := by cases kd <;> first | exact ⟨_, rfl⟩ | exact False.elim q7
      obtain ⟨z, rfl⟩ := hk
      have rk : Pk C F3 L3 H3 vk (.str z) := .rep rk
      refine ⟨acc, Sum.inr z, rk.str.1, a1, hz, hlt, F4, L4, S4, putK acc (Sum.inr z) v, putD done z e, ?_, k4.updNew a2 a3, upd_same, a2, a3, putK_rep rk.str.2 r4 (racc.up ex.ff ex.ll), Nat.le_trans (putK_len _ _ _) (by omega), q7⟩
      exact (((x1.trans x2).trans e3).trans e4).updNew nA
    · have e : i = ds.length := by omega
      subst e
      rw [List.drop_length] at q'
      simp only [dcompLoop, R.bind_ok] at q'
      exact .inl ⟨hJ.stop _ F' L' H' S' (tgt.of x1) k' (Nat.le_refl _), q' _ _ _ x1 k' _ (Vok.fr (.dic (e1.none_of nA) hA (by have := hJ.len; omega) fA lA racc))⟩
end
end MP

/-! MP: statements. -/
namespace MP
open PySem PySem.Spec PyProof.Rows L2
/-- own names hold things that are new since H0 -/
def OwnNew (H0 : Hp) (ρ : Env') (σ : Sg) : Prop := ∀ (i : Nat) (d : D) (v : V), ρ[i]? = some (.own d) → σ[i]? = some (some v) → ∃ p, v = .ref p ∧ H0 p = none
def Grow (F : Hp) (L : List Addr) (F' : Hp) (L' : List Addr) : Prop := Sub F F' ∧ L <+: L'
theorem Grow.refl (F : Hp) (L : List Addr) : Grow F L F L := ⟨Sub.refl F, List.prefix_refl L⟩
theorem Grow.trans {F F1 F2 : Hp} {L L1 M : List Addr} (a : Grow F L F1 L1) (b : Grow F1 L1 F2 M) : Grow F L F2 M := ⟨a.1.trans b.1, a.2.trans b.2⟩
theorem Ext.grow {F F1 : Hp} {L L1 : List Addr} {H H1 : Hp} (a : Ext F L H F1 L1 H1) : Grow F L F1 L1 := ⟨a.ff, a.ll⟩
/-- what is wanted of a statement's run -/
def Sn (C : Cn) (F0 : Hp) (L0 : List Addr) (H0 : Hp) (Fs : Hp) (Ls : List Addr) (W : WX) (lv : Lv) (D' : Ends) (r : RS) : Prop := match r with
  | .nx ρ' S' => ∀ F' L' H' σ', Ext F0 L0 H0 F' L' H' → Grow Fs Ls F' L' → Ok C F' L' H' S' → EnvOk C F' L' H' ρ' σ' → OwnNew H0 ρ' σ' → D'.nx σ' H'
  | .ret d S' => ∀ F' L' H' v, Ext F0 L0 H0 F' L' H' → Ok C F' L' H' S' → Vok C F' L' H0 H' lv v d → D'.rt v H'
  | .exc x ρ' S' => ∀ F' L' H' dx σ', Ext F0 L0 H0 F' L' H' → Ok C F' L' H' S' → XOk C F' L' H' x dx → EnvOk C F' L' H' ρ' σ' → OwnNew H0 ρ' σ' → W (.ref (C.cx x.c)) dx σ' H'
  | .stuck => False
def tS (C : Cn) (F0 : Hp) (L0 : List Addr) (H0 : Hp) (W : WX) (lv : Lv) (m : Env' → Sto → RS) : TS := fun D' σ H => ∃ F L S ρ, Ext F0 L0 H0 F L H ∧ Ok C F L H S ∧ EnvOk C F L H ρ σ ∧ OwnNew H0 ρ σ ∧ Sn C F0 L0 H0 F L W lv D' (m ρ S)
theorem PS.imp {X : Cx} {st : Stmt} {t t' : TS} (h : PS X st t) (f : ∀ D' σ H, t' D' σ H → t D' σ H) : PS X st t' := ⟨fun pins s σ H D' I q => h.run pins s σ H D' I (f D' σ H q)⟩
theorem PSs.imp {X : Cx} {st : List Stmt} {t t' : TS} (h : PSs X st t) (f : ∀ D' σ H, t' D' σ H → t D' σ H) : PSs X st t' := ⟨fun pins s σ H D' I q => h.run pins s σ H D' I (f D' σ H q)⟩
section
variable {C : Cn} {F0 : Hp} {L0 : List Addr} {H0 : Hp} {W : WX} {X : Cx} {lv lw : Lv} {a b c : Expr} {pos : Pos} {ma mb mc : Env' → Sto → R D} {F F' : Hp} {L L' : List Addr} {H H' : Hp} {S : Sto} {ρ ρ' : Env'} {σ σ' : Sg} {D' : Ends}
theorem ps_cong {st : Stmt} {m m' : Env' → Sto → RS} (p : PS X st (tS C F0 L0 H0 W lv m)) (h : ∀ ρ s, m' ρ s = m ρ s) : PS X st (tS C F0 L0 H0 W lv m') :=
  PS.imp p fun D' σ H ⟨F, L, S, ρ, x, k, en, ow, q⟩ => ⟨F, L, S, ρ, x, k, en, ow, by rw [← h]; exact q⟩
theorem pss_cong {st : List Stmt} {m m' : Env' → Sto → RS} (p : PSs X st (tS C F0 L0 H0 W lv m)) (h : ∀ ρ s, m' ρ s = m ρ s) : PSs X st (tS C F0 L0 H0 W lv m') :=
  PSs.imp p fun D' σ H ⟨F, L, S, ρ, x, k, en, ow, q⟩ => ⟨F, L, S, ρ, x, k, en, ow, by rw [← h]; exact q⟩
/-- an expression's run within a statement -/
theorem Sn.of {Fs : Hp} {Ls : List Addr} {α : Type} {r : R α} {f : α → Sto → RS} (x : Ext F0 L0 H0 F L H) (en : EnvOk C F L H ρ σ) (ow : OwnNew H0 ρ σ) (g : Grow Fs Ls F L) (q : Sn C F0 L0 H0 Fs Ls W lv D' (RS.of r ρ f)) : Rn C W σ F L H r fun F' L' H' S' a => Ext F0 L0 H0 F' L' H' ∧ EnvOk C F' L' H' ρ σ ∧ Grow Fs Ls F' L' ∧ Sn C F0 L0 H0 Fs Ls W lv D' (f a S') := by
  cases r with
  | ok a s => exact fun F' L' H' e k => ⟨x.trans e, en.ext e, g.trans e.grow, q⟩
  | exc y s => exact fun F' L' H' dx e k o => q _ _ _ _ _ (x.trans e) k o (en.ext e) ow
  | stuck => exact q
theorem Sn.got {Fs : Hp} {Ls : List Addr} {α : Type} {o : Option α} {f : α → Sto → RS} (q : Sn C F0 L0 H0 Fs Ls W lv D' (RS.of (R.of o S) ρ f)) : ∃ a, o = some a ∧ Sn C F0 L0 H0 Fs Ls W lv D' (f a S) := by
  cases o with
  | none => exact False.elim q
  | some a => exact ⟨a, rfl, q⟩
theorem Sn.from {Fs Fs' : Hp} {Ls Ls' : List Addr} {r : RS} (g : Grow Fs Ls Fs' Ls') (q : Sn C F0 L0 H0 Fs Ls W lv D' r) : Sn C F0 L0 H0 Fs' Ls' W lv D' r := by
  cases r with
  | nx ρ s => exact fun F' L' H' σ' x g' => q F' L' H' σ' x (g.trans g')
  | ret d s => exact q
  | exc y ρ s => exact q
  | stuck => exact q
theorem OwnNew.setI {i : Nat} {x : Option V} {d : D} (ow : OwnNew H0 ρ σ) : OwnNew H0 (setI ρ i d) (σ.set i x) := fun j e v h1 h2 => by
  unfold MP.setI at h1
  have hj : i ≠ j := by
    rintro rfl
    rw [List.getElem?_set_self'] at h1
    cases e : ρ[i]? <;> rw [e] at h1 <;> cases h1
  rw [List.getElem?_set_ne hj] at h1 h2
  exact ow j e v h1 h2
theorem OwnNew.setAll : ∀ {is : List Nat} {ds : List D} {vs : List V} {ρ : Env'} {σ : Sg}, OwnNew H0 ρ σ → vs.length = ds.length → OwnNew H0 (setAll ρ is ds) ((is.zip vs).foldl (fun s p => s.set p.1 (some p.2)) σ)
  | [], _, _, _, _, ow, _ => by simpa [MP.setAll] using ow
  | _ :: _, [], [], _, _, ow, _ => by simpa [MP.setAll] using ow
  | i :: is, d :: ds, v :: vs, ρ, σ, ow, h => by
    simp only [MP.setAll, List.zip_cons_cons, List.foldl_cons]
    exact OwnNew.setAll ow.setI (by simpa using h)
  | _ :: _, _ :: _, [], _, _, _, h => by simp at h
  | _ :: _, [], _ :: _, _, _, _, h => by simp at h
theorem Ext.back {a : Addr} (x : Ext F0 L0 H0 F L H) (h : H a = none) : H0 a = none := x.none_of h
/-! ### a block -/
theorem m_nil : PSs X [] (tS C F0 L0 H0 W lv fun ρ s => .nx ρ s) := PSs.imp pss_nil fun D' σ H ⟨F, L, S, ρ, x, k, en, ow, q⟩ => q _ _ _ _ x (Grow.refl _ _) k en ow
theorem m_cons {st : Stmt} {sts : List Stmt} {m : Env' → Sto → RS} {ms : Env' → Sto → RS} (h : PS X st (tS C F0 L0 H0 W lv m)) (hs : PSs X sts (tS C F0 L0 H0 W lv ms)) : PSs X (st :: sts) (tS C F0 L0 H0 W lv fun ρ s => (m ρ s).seq fun ρ' s' => ms ρ' s') := by
  refine PSs.imp (pss_cons h hs) fun D' σ H ⟨F, L, S, ρ, x, k, en, ow, q⟩ => ⟨F, L, S, ρ, x, k, en, ow, ?_⟩
  dsimp only at q
  cases e : m ρ S with
  | nx ρ' S' => rw [e] at q; exact fun F' L' H' σ' x' g' k' en' ow' => ⟨F', L', S', ρ', x', k', en', ow', q.from g'⟩
  | ret d S' => rw [e] at q; exact q
  | exc y ρ' S' => rw [e] at q; exact q
  | stuck => rw [e] at q; exact q
/-! ### stores -/
/-- x = e by any rule: te is what its reading leans on -/
theorem s_asg {st : Stmt} {i : Nat} {te : TE} (h : PS X st (tAsg te (gName i))) (ht : ∀ σ H Q, tE C W .rep ma σ H Q → te σ H Q) : PS X st (tS C F0 L0 H0 W lv fun ρ s => RS.of (ma ρ s) ρ fun d s => .nx (setI ρ i d) s) := by
  refine PS.imp h fun D' σ H ⟨F, L, S, ρ, x, k, en, ow, q⟩ => ht _ _ _ ⟨F, L, S, ρ, k, en, (Sn.of x en ow (Grow.refl _ _) q).imp fun F1 L1 H1 S1 d e1 k1 ⟨x1, en1, g1, q1⟩ v r => ?_⟩
  exact q1 _ _ _ _ x1 g1 k1 (en1.setI r) ow.setI
theorem Fr.own {v : V} {d : D} (x : Fr C F L H0 H v d) : Fr C F L (fun _ => none) H v d := by
  cases x with
  | lst n a b c d e => exact .lst rfl a b c d e
  | dic n a b c d e => exact .dic rfl a b c d e
/-- where a fresh thing stands -/
theorem Fr.at_ {v : V} {d : D} (x : Fr C F L H' H v d) : ∃ p o, v = .ref p ∧ H p = some o ∧ H' p = none ∧ F p = none ∧ p ∉ L := by
  cases x with
  | lst n a b c d e => exact ⟨_, _, rfl, a, n, c, d⟩
  | dic n a b c d e => exact ⟨_, _, rfl, a, n, c, d⟩
theorem set_get {α : Type} {l : List α} {i j : Nat} {x y : α} (h : (l.set i x)[j]? = some y) : (i = j ∧ x = y ∧ j < l.length) ∨ (i ≠ j ∧ l[j]? = some y) := by
  by_cases hj : i = j
  · subst hj
    rw [List.getElem?_set_self'] at h
    cases e : l[i]? with
    | none => rw [e] at h; cases h
    | some w => rw [e] at h; cases h; exact .inl ⟨rfl, rfl, (List.getElem?_eq_some_iff.mp e).1⟩
  · rw [List.getElem?_set_ne hj] at h
    exact .inr ⟨hj, h⟩
theorem EnvOk.setO {F1 : Hp} {L1 : List Addr} {H1 : Hp} {i : Nat} {v : V} {d : D} (en : EnvOk C F L H ρ σ) (en1 : EnvOk C F1 L1 H1 ρ σ) (r : Fr C F1 L1 H H1 v d) : EnvOk C F1 L1 H1 (setO ρ i d) (σ.set i (some v)) where
  len := by unfold MP.setO; rw [List.length_set, List.length_set]; exact en.len
  slot := fun j z x h1 h2 => by
    unfold MP.setO at h1
    rcases set_get h1 with ⟨e1, rfl, _⟩ | ⟨n1, h1⟩
    · rcases set_get h2 with ⟨_, rfl, _⟩ | ⟨n2, _⟩
      · exact ⟨v, rfl, r.own⟩
      · exact absurd e1 n2
    · rcases set_get h2 with ⟨e2, _, _⟩ | ⟨_, h2⟩
      · exact absurd e2 n1
      · exact en1.slot j z x h1 h2
  sep := fun j k e e' w h1 h2 h3 h4 => by
    unfold MP.setO at h1 h2
    have other : ∀ {m : Nat} {e : D} {w : V}, ρ[m]? = some (.own e) → σ[m]? = some (some w) → w ≠ v := fun {m e w} q1 q2 q3 => by
      obtain ⟨w', q4, q5⟩ := en.own q1
      rw [q2] at q4
      cases q4
      obtain ⟨p, o, rfl, q6, _⟩ := q5.at_
      obtain ⟨p', o', q7, _, q8, _⟩ := r.at_
      have q9 := q3.trans q7
      cases q9
      rw [q6] at q8
      cases q8
    rcases set_get h1 with ⟨a1, _, _⟩ | ⟨n1, h1⟩ <;> rcases set_get h2 with ⟨a2, _, _⟩ | ⟨n2, h2⟩
    · exact a1.symm.trans a2
    · rcases set_get h3 with ⟨_, b1, _⟩ | ⟨z, _⟩
      · rcases set_get h4 with ⟨z, _⟩ | ⟨_, h4⟩
        · exact absurd z n2
        · cases b1; exact absurd rfl (other h2 h4)
      · exact absurd a1 z
    · rcases set_get h4 with ⟨_, b1, _⟩ | ⟨z, _⟩
      · rcases set_get h3 with ⟨z, _⟩ | ⟨_, h3⟩
        · exact absurd z n1
        · cases b1; exact absurd rfl (other h1 h3)
      · exact absurd a2 z
    · rcases set_get h3 with ⟨z, _⟩ | ⟨_, h3⟩
      · exact absurd z n1
      · rcases set_get h4 with ⟨z, _⟩ | ⟨_, h4⟩
        · exact absurd z n2
        · exact en.sep j k e e' w h1 h2 h3 h4
theorem EnvOk.upd {i : Nat} {p : Addr} {o : HO} {d d' : D} (en : EnvOk C F L H ρ σ) (hi : ρ[i]? = some (.own d)) (hs : σ[i]? = some (some (.ref p))) (new : Fr C F L (fun _ => none) (upd H p o) (.ref p) d') : EnvOk C F L (upd H p o) (MP.setO ρ i d') σ where
  len := by unfold MP.setO; rw [List.length_set]; exact en.len
  slot := fun j z x h1 h2 => by
    unfold MP.setO at h1
    rcases set_get h1 with ⟨rfl, rfl, _⟩ | ⟨n1, h1⟩
    · rw [hs] at h2; cases h2; exact ⟨_, rfl, new⟩
    · have q := en.slot j z x h1 h2
      cases z with
      | no => trivial
      | imm e => exact q
      | own e =>
        obtain ⟨w, rfl, q⟩ := q
        refine ⟨w, rfl, ?_⟩
        have ne : w ≠ .ref p := fun z => by
          subst z
          exact n1 (en.sep i j d e _ hi h1 hs h2)
        cases q with
        | lst n a b c d e => exact .lst n (by rw [upd_ne fun z => ne (by rw [z])]; exact a) b c d e
        | dic n a b c d e => exact .dic n (by rw [upd_ne fun z => ne (by rw [z])]; exact a) b c d e
  sep := fun j k e e' w h1 h2 h3 h4 => by
    unfold MP.setO at h1 h2
    have h1' : ∃ e, ρ[j]? = some (.own e) := by
      rcases set_get h1 with ⟨rfl, _, _⟩ | ⟨_, h⟩
      · exact ⟨d, hi⟩
      · exact ⟨_, h⟩
    have h2' : ∃ e, ρ[k]? = some (.own e) := by
      rcases set_get h2 with ⟨rfl, _, _⟩ | ⟨_, h⟩
      · exact ⟨d, hi⟩
      · exact ⟨_, h⟩
    obtain ⟨e1, h1'⟩ := h1'
    obtain ⟨e2, h2'⟩ := h2'
    exact en.sep j k e1 e2 w h1' h2' h3 h4
theorem OwnNew.setO {i : Nat} {v : V} {d : D} {p : Addr} (ow : OwnNew H0 ρ σ) (hv : v = .ref p) (n : H0 p = none) : OwnNew H0 (MP.setO ρ i d) (σ.set i (some v)) := fun j e w h1 h2 => by
  unfold MP.setO at h1
  rcases set_get h1 with ⟨e1, _, _⟩ | ⟨n1, h1⟩
  · rcases set_get h2 with ⟨_, b, _⟩ | ⟨n2, _⟩
    · cases b; exact ⟨p, hv, n⟩
    · exact absurd e1 n2
  · rcases set_get h2 with ⟨e2, _, _⟩ | ⟨_, h2⟩
    · exact absurd e2 n1
    · exact ow j e w h1 h2
theorem OwnNew.upd {i : Nat} {d d' : D} (ow : OwnNew H0 ρ σ) (hi : ρ[i]? = some (.own d)) : OwnNew H0 (MP.setO ρ i d') σ := fun j e w h1 h2 => by
  unfold MP.setO at h1
  rcases set_get h1 with ⟨rfl, _, _⟩ | ⟨n1, h1⟩
  · exact ow i d w hi h2
  · exact ow j e w h1 h2
theorem s_asgO {st : Stmt} {i : Nat} {te : TE} (h : PS X st (tAsg te (gName i))) (ht : ∀ σ H Q, tE C W .fr ma σ H Q → te σ H Q) : PS X st (tS C F0 L0 H0 W lv fun ρ s => RS.of (ma ρ s) ρ fun d s => if isFr d then .nx (setO ρ i d) s else .stuck) := by
  refine PS.imp h fun D' σ H ⟨F, L, S, ρ, x, k, en, ow, q⟩ => ht _ _ _ ⟨F, L, S, ρ, k, en, (Sn.of x en ow (Grow.refl _ _) q).imp fun F1 L1 H1 S1 d e1 k1 ⟨x1, en1, g1, q1⟩ v r => ?_⟩
  split at q1
  · rename_i hd
    have r : Fr C F1 L1 H H1 v d := by simpa [Vok, hd] using r
    obtain ⟨p, o, hv, _, n, _⟩ := r.at_
    exact q1 _ _ _ _ x1 g1 k1 (en.setO en1 r) (ow.setO hv (x.none_of n))
  · exact False.elim q1
theorem ownAt_some {i : Nat} {d : D} (h : ownAt ρ i = some d) : ρ[i]? = some (.own d) := by
  unfold ownAt at h
  split at h
  · rename_i e; rw [e, Option.some.inj h]
  · cases h
/-- the own name i is frozen ahead of a statement -/
theorem s_frz {st : Stmt} {i : Nat} {m : Env' → Sto → RS} (h : PS X st (tS C F0 L0 H0 W lv m)) : PS X st (tS C F0 L0 H0 W lv fun ρ s => match ownAt ρ i with | some d => m (setI ρ i d) s | none => m ρ s) := by
  refine PS.imp h fun D' σ H ⟨F, L, S, ρ, x, k, en, ow, q⟩ => ?_
  dsimp only at q
  cases e : ownAt ρ i with
  | none => rw [e] at q; exact ⟨F, L, S, ρ, x, k, en, ow, q⟩
  | some d =>
    rw [e] at q
    have hi := ownAt_some e
    obtain ⟨v, hs, r⟩ := en.own hi
    obtain ⟨p, hv, n⟩ := ow i d v hi hs
    have hset : σ.set i (some v) = σ := List.ext_getElem? fun j => by
      by_cases hj : i = j
      · subst hj; rw [List.getElem?_set_self']; rw [hs]; rfl
      · rw [List.getElem?_set_ne hj]
    have key : ∃ F', Ok C F' L H S ∧ Ext F0 L0 H0 F' L H ∧ Rep C F' L v d ∧ Sub F F' ∧ ∀ o, o ≠ v → ∀ e, Fr C F L (fun _ => none) H o e → Fr C F' L (fun _ => none) H o e := by
      cases r with
      | @lst p' vs ds n' h1 z f l r =>
        cases hv
        refine ⟨_, k.freeze h1 f l, x.freeze n f, .lst upd_same z (r.up (Sub.fz f) (List.prefix_refl _)), Sub.fz f, fun o ho e q => ?_⟩
        cases q with
        | lst n a b c d e => exact .lst n a b (by unfold fz; rw [upd_ne fun z => ho (by rw [z])]; exact c) d (e.up (Sub.fz f) (List.prefix_refl _))
        | dic n a b c d e => exact .dic n a b (by unfold fz; rw [upd_ne fun z => ho (by rw [z])]; exact c) d (e.up (Sub.fz f) (List.prefix_refl _))
      | @dic p' vs ds n' h1 z f l r =>
        cases hv
        refine ⟨_, k.freeze h1 f l, x.freeze n f, .dic upd_same z (r.up (Sub.fz f) (List.prefix_refl _)), Sub.fz f, fun o ho e q => ?_⟩
        cases q with
        | lst n a b c d e => exact .lst n a b (by unfold fz; rw [upd_ne fun z => ho (by rw [z])]; exact c) d (e.up (Sub.fz f) (List.prefix_refl _))
        | dic n a b c d e => exact .dic n a b (by unfold fz; rw [upd_ne fun z => ho (by rw [z])]; exact c) d (e.up (Sub.fz f) (List.prefix_refl _))
    obtain ⟨F', k', x', r', sf, oth⟩ := key
    have q := q.from (Fs' := F') (Ls' := L) ⟨sf, List.prefix_refl _⟩
    refine ⟨F', L, S, setI ρ i d, x', k', ⟨?_, fun j z y h1 h2 => ?_, fun j k e e' w h1 h2 h3 h4 => ?_⟩, ?_, q⟩
    · unfold setI; rw [List.length_set]; exact en.len
    · unfold setI at h1
      rcases set_get h1 with ⟨rfl, rfl, _⟩ | ⟨n1, h1⟩
      · rw [hs] at h2; cases h2; exact ⟨v, rfl, r'⟩
      · have q' := en.slot j z y h1 h2
        cases z with
        | no => trivial
        | imm e => obtain ⟨w, q1, q2⟩ := q'; exact ⟨w, q1, q2.up sf (List.prefix_refl _)⟩
        | own e =>
          obtain ⟨w, rfl, q2⟩ := q'
          exact ⟨w, rfl, oth w (fun z => n1 (en.sep i j d e v hi h1 hs (z ▸ h2))) e q2⟩
    · unfold setI at h1 h2
      rcases set_get h1 with ⟨_, a1, _⟩ | ⟨n1, h1⟩
      · cases a1
      · rcases set_get h2 with ⟨_, a2, _⟩ | ⟨n2, h2⟩
        · cases a2
        · exact en.sep j k e e' w h1 h2 h3 h4
    · have := ow.setI (i := i) (x := some v) (d := d)
      rw [hset] at this
      exact this
/-! ### other statements -/
theorem gs_okO : ∀ {is : List Nat} {xs : List V} {ds : List D} {ρ : Env'} {σ : Sg} {Q : Sg → Hp → Prop}, RepAll C F L xs ds → ds.length = is.length → EnvOk C F L H ρ σ → OwnNew H0 ρ σ →
    (∀ σ', EnvOk C F L H (setAll ρ is ds) σ' → OwnNew H0 (MP.setAll ρ is ds) σ' → Q σ' H) → gsOf is xs σ H Q
  | [], _, _, ρ, σ, Q, .nil, _, en, ow, q => ⟨rfl, q σ en ow⟩
  | i :: is, _, _, ρ, σ, Q, .cons r t, hl, en, ow, q => ⟨_, _, rfl, gs_okO t (by simpa using hl) (en.setI (i := i) r) ow.setI q⟩
  | [], _, _, _, _, _, .cons _ _, hl, _, _, _ => by simp at hl
  | _ :: _, _, _, _, _, _, .nil, hl, _, _, _ => by simp at hl
theorem g_okO {tg : Tg} {x : V} {d : D} {Q : Sg → Hp → Prop} (k : Ok C F L H S) (r : Rep C F L x d) (h : bindTg ρ tg d = some ρ') (en : EnvOk C F L H ρ σ) (ow : OwnNew H0 ρ σ)
    (q : ∀ σ', EnvOk C F L H ρ' σ' → OwnNew H0 ρ' σ' → Q σ' H) : gOf C.K tg x σ H Q := by
  cases tg with
  | one i =>
    cases h
    exact q _ (en.setI r) ow.setI
  | tup is =>
    cases d <;> simp only [bindTg] at h <;> (first | cases h | skip)
    split at h
    · rename_i hl
      cases h
      cases r with
      | tup hs z t => exact ⟨_, _, rfl, k.sub.sqT hs, by rw [t.length, hl], gs_okO t hl en ow q⟩
    · cases h
theorem s_unp {st : Stmt} {is : List Nat} {te : TE} (h : PS X st (tAsg te (gOf C.K (.tup is)))) (ht : ∀ σ H Q, tE C W .rep ma σ H Q → te σ H Q) : PS X st (tS C F0 L0 H0 W lv fun ρ s => RS.of (ma ρ s) ρ fun d s => RS.of (R.of (bindTg ρ (.tup is) d) s) ρ fun ρ' s => .nx ρ' s) := by
  refine PS.imp h fun D' σ H ⟨F, L, S, ρ, x, k, en, ow, q⟩ => ht _ _ _ ⟨F, L, S, ρ, k, en, (Sn.of x en ow (Grow.refl _ _) q).imp fun F1 L1 H1 S1 d e1 k1 ⟨x1, en1, g1, q1⟩ v r => ?_⟩
  obtain ⟨ρ', h, q1⟩ := q1.got
  exact g_okO k1 r h en1 ow fun σ' en' ow' => q1 _ _ _ _ x1 g1 k1 en' ow'
theorem s_exp {st : Stmt} {te : TE} (h : PS X st (tDrop te)) (ht : ∀ σ H Q, tE C W .pk ma σ H Q → te σ H Q) : PS X st (tS C F0 L0 H0 W lv fun ρ s => RS.of (ma ρ s) ρ fun _ s => .nx ρ s) := by
  refine PS.imp h fun D' σ H ⟨F, L, S, ρ, x, k, en, ow, q⟩ => ht _ _ _ ⟨F, L, S, ρ, k, en, (Sn.of x en ow (Grow.refl _ _) q).imp fun F1 L1 H1 S1 d e1 k1 ⟨x1, en1, g1, q1⟩ v r => ?_⟩
  exact q1 _ _ _ _ x1 g1 k1 en1 ow
theorem s_ret {st : Stmt} {te : TE} (h : PS X st (tRet te)) (ht : ∀ σ H Q, tE C W lv ma σ H Q → te σ H Q) : PS X st (tS C F0 L0 H0 W lv fun ρ s => RS.of (ma ρ s) ρ fun d s => .ret d s) := by
  refine PS.imp h fun D' σ H ⟨F, L, S, ρ, x, k, en, ow, q⟩ => ht _ _ _ ⟨F, L, S, ρ, k, en, (Sn.of x en ow (Grow.refl _ _) q).imp fun F1 L1 H1 S1 d e1 k1 ⟨x1, en1, g1, q1⟩ v r => ?_⟩
  exact q1 _ _ _ _ x1 k1 (r.from fun a h => x.none_of h)
theorem Fr.since {v : V} {d : D} (x : Fr C F L (fun _ => none) H v d) {p : Addr} (hv : v = .ref p) (n : H0 p = none) : Fr C F L H0 H v d := by
  cases x with
  | lst _ a b c d e => cases hv; exact .lst n a b c d e
  | dic _ a b c d e => cases hv; exact .dic n a b c d e
theorem s_retO {st : Stmt} {i : Nat} (h : PS X st (tRet (tVar i))) (hlv : lv = .fr ∨ lv = .rep) : PS X st (tS C F0 L0 H0 W lv fun ρ s => RS.of (R.of (ownAt ρ i) s) ρ fun d s => .ret d s) := by
  refine PS.imp h fun D' σ H ⟨F, L, S, ρ, x, k, en, ow, q⟩ => ?_
  obtain ⟨d, h, q⟩ := q.got
  have hi := ownAt_some h
  obtain ⟨v, hs, r⟩ := en.own hi
  obtain ⟨p, hv, n⟩ := ow i d v hi hs
  have r' := r.since hv n
  refine ⟨v, hs, ?_⟩
  rcases hlv with e | e
  · subst e
    exact q _ _ _ _ x k (Vok.fr r')
  · subst e
    obtain ⟨F2, k2, x2, r2⟩ := r'.freeze k x
    exact q _ _ _ _ x2 k2 r2
theorem s_retN {st : Stmt} (h : PS X st tRetN) (hlv : lv = .fr ∨ lv = .rep) : PS X st (tS C F0 L0 H0 W lv fun ρ s => .ret .non s) := by
  refine PS.imp h fun D' σ H ⟨F, L, S, ρ, x, k, en, ow, q⟩ => ?_
  rcases hlv with e | e
  · subst e; exact q _ _ _ _ x k (Vok.re rfl .non)
  · subst e; exact q _ _ _ _ x k .non
theorem s_pass {st : Stmt} (h : PS X st tNext) : PS X st (tS C F0 L0 H0 W lv fun ρ s => .nx ρ s) :=
  PS.imp h fun D' σ H ⟨F, L, S, ρ, x, k, en, ow, q⟩ => q _ _ _ _ x (Grow.refl _ _) k en ow
theorem s_never {st : Stmt} : PS X st (tS C F0 L0 H0 W lv fun ρ s => .stuck) := PS.imp ps_never fun D' σ H ⟨F, L, S, ρ, x, k, en, ow, q⟩ => q
theorem s_if {m : Env' → Sto → R Bool} {sa sb : List Stmt} {na nb : Env' → Sto → RS} (hc : PT X c (tT C W m)) (ha : PSs X sa (tS C F0 L0 H0 W lv na)) (hb : PSs X sb (tS C F0 L0 H0 W lv nb)) :
    PS X (.If c sa sb pos) (tS C F0 L0 H0 W lv fun ρ s => RS.of (m ρ s) ρ fun t s => if t then na ρ s else nb ρ s) := by
  refine PS.imp (ps_if hc ha hb) fun D' σ H ⟨F, L, S, ρ, x, k, en, ow, q⟩ => ⟨F, L, S, ρ, k, en, (Sn.of x en ow (Grow.refl _ _) q).imp fun F1 L1 H1 S1 t e1 k1 ⟨x1, en1, g1, q1⟩ => ?_⟩
  cases t with
  | true => exact iteT ⟨F1, L1, S1, ρ, x1, k1, en1, ow, q1.from g1⟩
  | false => exact iteF ⟨F1, L1, S1, ρ, x1, k1, en1, ow, q1.from g1⟩
theorem s_aug {st : Stmt} {i : Nat} {r : R2} {f : D → D → Option D} (h : PS X st (tAug i (tE C W .pk ma) r)) (hf : OpOk C .fr r f) : PS X st (tS C F0 L0 H0 W lv fun ρ s => RS.of (R.of (immAt ρ i) s) ρ fun x s => RS.of (ma ρ s) ρ fun d s => RS.of (R.of (f x d) s) ρ fun r s => .nx (setI ρ i r) s) := by
  refine PS.imp h fun D' σ H ⟨F, L, S, ρ, x, k, en, ow, q⟩ => ?_
  obtain ⟨y, hi, q⟩ := q.got
  obtain ⟨v, hs, rv⟩ := en.imm (immAt_some hi)
  refine ⟨v, hs, F, L, S, ρ, k, en, (Sn.of x en ow (Grow.refl _ _) q).imp fun F1 L1 H1 S1 d e1 k1 ⟨x1, en1, g1, q1⟩ w rw' => ?_⟩
  obtain ⟨z, hz, q1⟩ := q1.got
  refine hf _ _ _ _ _ _ _ _ _ _ k1 (.rep (rv.up e1.ff e1.ll)) rw' hz fun F2 L2 H2 u e2 k2 ru => ?_
  obtain ⟨F3, k3, e3, r3⟩ := Vok.weak ru k2 e2
  exact q1 _ _ _ _ (x1.trans e3) (g1.trans e3.grow) k3 ((en1.ext e3).setI r3) ow.setI
def augOf : BO → Operator := opOf
theorem aug_ok (o : BO) (ho : o = .add ∨ o = .mul) : ∃ r, PIp X (opOf o) r ∧ OpOk C .fr r (dAug o) := by
  rcases ho with e | e
  · subst e
    exact ⟨_, iop_add, OpOk.cong ok_II fun a b d e => by cases a <;> cases b <;> simp_all [dAug, fI]⟩
  · subst e
    refine ⟨_, iop_mul, OpOk.cong (ok_I (f := fun i j => if small i || small j then some (.int (i * j)) else none) fun i j d e => ?_) fun a b d e => by cases a <;> cases b <;> simp_all [dAug, fI]⟩
    split at e
    · rename_i h
      cases e
      refine ⟨?_, fun _ _ => .int _, rfl⟩
      simp only [small, Bool.or_eq_true, Bool.and_eq_true, decide_eq_true_eq] at h
      exact h
    · cases e
theorem lstOwn_some {i : Nat} {xs : List D} (h : lstOwn ρ i = some xs) : ρ[i]? = some (.own (.lst xs)) := by
  unfold lstOwn at h
  split at h
  · rename_i e; rw [e, Option.some.inj h]
  · cases h
theorem dicOwn_some {i : Nat} {xs : List (D × D)} (h : dicOwn ρ i = some xs) : ρ[i]? = some (.own (.dic xs)) := by
  unfold dicOwn at h
  split at h
  · rename_i e; rw [e, Option.some.inj h]
  · cases h
/-- an own list changed -/
theorem own_list {i : Nat} {xs xs' : List D} {p : Addr} {vs vs' : List V} (x : Ext F0 L0 H0 F L H) (k : Ok C F L H S) (en : EnvOk C F L H ρ σ) (ow : OwnNew H0 ρ σ) (hi : ρ[i]? = some (.own (.lst xs))) (hs : σ[i]? = some (some (.ref p))) (f : F p = none) (l : p ∉ L) (z : vs'.length ≤ sizeLine) (r : RepAll C F L vs' xs') :
    Ext F0 L0 H0 F L (upd H p (.lst vs')) ∧ Ok C F L (upd H p (.lst vs')) S ∧ EnvOk C F L (upd H p (.lst vs')) (setO ρ i (.lst xs')) σ ∧ OwnNew H0 (setO ρ i (.lst xs')) σ := by
  obtain ⟨p', e, n⟩ := ow i _ _ hi hs
  cases e
  exact ⟨x.updNew n, k.updNew f l, en.upd hi hs (.lst rfl upd_same z f l r), ow.upd hi⟩
theorem own_dict {i : Nat} {xs xs' : List (D × D)} {p : Addr} {vs' : List (Key × V)} (x : Ext F0 L0 H0 F L H) (k : Ok C F L H S) (en : EnvOk C F L H ρ σ) (ow : OwnNew H0 ρ σ) (hi : ρ[i]? = some (.own (.dic xs))) (hs : σ[i]? = some (some (.ref p))) (f : F p = none) (l : p ∉ L) (z : vs'.length ≤ sizeLine) (r : RepKV C F L vs' xs') :
    Ext F0 L0 H0 F L (upd H p (.dK vs')) ∧ Ok C F L (upd H p (.dK vs')) S ∧ EnvOk C F L (upd H p (.dK vs')) (setO ρ i (.dic xs')) σ ∧ OwnNew H0 (setO ρ i (.dic xs')) σ := by
  obtain ⟨p', e, n⟩ := ow i _ _ hi hs
  cases e
  exact ⟨x.updNew n, k.updNew f l, en.upd hi hs (.dic rfl upd_same z f l r), ow.upd hi⟩
theorem Fr.lstAt {v : V} {ds : List D} (x : Fr C F L H' H v (.lst ds)) : ∃ p vs, v = .ref p ∧ H p = some (.lst vs) ∧ vs.length ≤ sizeLine ∧ F p = none ∧ p ∉ L ∧ RepAll C F L vs ds := by
  cases x with
  | lst n a b c d e => exact ⟨_, _, rfl, a, b, c, d, e⟩
theorem Fr.dicAt {v : V} {ds : List (D × D)} (x : Fr C F L H' H v (.dic ds)) : ∃ p vs, v = .ref p ∧ H p = some (.dK vs) ∧ vs.length ≤ sizeLine ∧ F p = none ∧ p ∉ L ∧ RepKV C F L vs ds := by
  cases x with
  | dic n a b c d e => exact ⟨_, _, rfl, a, b, c, d, e⟩
/-- x.append(e) -/
theorem s_app {i : Nat} {x : Str} {p apos cpos pp : Pos} {e : Expr} (hv : PE X (.Name x p) (tVar i)) (hbase : attributeBase (.Name x p) "append" X.env (eval (.Name x p) X.env) = eval (.Name x p) X.env) (hline : (apos.endLine == cpos.line) = true) (hs : starEach [e] X.env = [(false, eval e X.env)]) (ha : PE X e (tE C W .rep ma)) :
    PS X (.Expr (.Call (.Attribute (.Name x p) "append" apos) [e] [] cpos) pp) (tS C F0 L0 H0 W lv fun ρ s => RS.of (R.of (lstOwn ρ i) s) ρ fun xs s => RS.of (ma ρ s) ρ fun d s => RS.of (R.of (dApp xs d) s) ρ fun o s => .nx (setO ρ i o) s) := by
  refine PS.imp (ps_expr (pe_bm PySem.F.plainAttrs_list PySem.F.slot_list_append PySem.F.type_list_append mt_append hv (pa_cons ha pa_nil hs) hbase (by rw [hs]; rfl) hline (by rw [hs]; rfl) rfl)) fun D' σ H ⟨F, L, S, ρ, x, k, en, ow, q⟩ => ?_
  obtain ⟨xs, hi, q⟩ := q.got
  have hi := lstOwn_some hi
  obtain ⟨v, hsl, r⟩ := en.own hi
  obtain ⟨p, vs, rfl, h1, z, f, l, rr⟩ := r.lstAt
  refine ⟨_, hsl, .inl ⟨rfl, vs, SqL.of h1⟩, F, L, S, ρ, k, en, (Sn.of x en ow (Grow.refl _ _) q).imp fun F1 L1 H1 S1 d e1 k1 ⟨x1, en1, g1, q1⟩ w rw' => ?_⟩
  obtain ⟨o, ho, q1⟩ := q1.got
  unfold dApp at ho
  split at ho
  · rename_i hl
    cases ho
    obtain ⟨v', hsl', r'⟩ := en1.own hi
    rw [hsl] at hsl'
    cases hsl'
    obtain ⟨p', vs', e, h1', z', f', l', rr'⟩ := r'.lstAt
    cases e
    have hlt : vs'.length < sizeLine := by rw [sizeBIG, rr'.length]; exact hl
    obtain ⟨a1, a2, a3, a4⟩ := own_list (vs := vs') (vs' := vs' ++ [w]) (xs' := xs ++ [d]) x1 k1 en1 ow hi hsl f' l' (by rw [List.length_append]; exact hlt) (rr'.snoc rw')
    exact ⟨_, vs', w, rfl, rfl, h1', hlt, q1 _ _ _ _ a1 g1 a2 a3 a4⟩
  · cases ho
/-- x[k] = e, x an own list -/
theorem s_setI {i : Nat} {x : Str} {p sp pp : Pos} {kx e : Expr} (hv : PE X (.Name x p) (tVar i)) (hsw : swapsWithSole [.Subscript (.Name x p) kx sp] e pp.line X.env = pure false) (hss : swappedStores [.Subscript (.Name x p) kx sp] e X.env = pure none) (ha : PE X e (tE C W .rep ma)) (hk : PE X kx (tE C W .pk mb))
    (hsub : ∀ v, assign (.Subscript (.Name x p) kx sp) X.env v = (do
      let ov ← holding [v] (eval (.Name x p) X.env)
      let iv ← holding [v, ov] (eval kx X.env)
      standAt sp
      holding [v, ov, iv] (setItem ov iv v)
      release [v, ov, iv] [])) :
    PS X (.Assign [.Subscript (.Name x p) kx sp] e pp) (tS C F0 L0 H0 W lv fun ρ s => RS.of (R.of (lstOwn ρ i) s) ρ fun o s => RS.of (ma ρ s) ρ fun d s => RS.of (mb ρ s) ρ fun x s => RS.of (R.of (dSetI o x d) s) ρ fun o s => .nx (setO ρ i o) s) := by
  refine PS.imp (ps_asg ha (pg_sub hv hk set_list hsub) hsw hss) fun D' σ H ⟨F, L, S, ρ, x, k, en, ow, q⟩ => ?_
  obtain ⟨xs, hi, q⟩ := q.got
  have hi := lstOwn_some hi
  obtain ⟨v, hsl, r0⟩ := en.own hi
  refine ⟨F, L, S, ρ, k, en, (Sn.of x en ow (Grow.refl _ _) q).imp fun F1 L1 H1 S1 d e1 k1 ⟨x1, en1, g1, q1⟩ w rw' => ?_⟩
  refine ⟨v, hsl, F1, L1, S1, ρ, k1, en1, (Sn.of x1 en1 ow g1 q1).imp fun F2 L2 H2 S2 y e2 k2 ⟨x2, en2, g2, q2⟩ u ru => ?_⟩
  obtain ⟨o, ho, q2⟩ := q2.got
  have hy : ∃ j, y = .int j := by cases y <;> first | exact ⟨_, rfl⟩ | cases ho
  obtain ⟨j, rfl⟩ := hy
  simp only [dSetI, Option.map_eq_some_iff] at ho
  obtain ⟨n, hn, rfl⟩ := ho
  obtain ⟨v', hsl', r'⟩ := en2.own hi
  rw [hsl] at hsl'
  cases hsl'
  obtain ⟨p', vs', rfl, h1', z', f', l', rr'⟩ := r'.lstAt
  have rw2 : Rep C F1 L1 w d := rw'
  obtain ⟨a1, a2, a3, a4⟩ := own_list (vs := vs') (vs' := vs'.set n w) (xs' := xs.set n d) x2 k2 en2 ow hi hsl f' l' (by rw [List.length_set]; exact z') (RepAll.set (rw2.up e2.ff e2.ll) n rr')
  exact ⟨p', vs', j, n, rfl, Pk.int ru, h1', by rw [rr'.length]; exact hn, q2 _ _ _ _ a1 g2 a2 a3 a4⟩
/-- x[k] = e, x an own dict -/
theorem s_setK {i : Nat} {x : Str} {p sp pp : Pos} {kx e : Expr} (hu : X.A.units + 1 < cLine) (hv : PE X (.Name x p) (tVar i)) (hsw : swapsWith e (some (.Subscript (.Name x p) kx sp)) pp.line X.env = pure false) (ha : PE X e (tE C W .rep ma)) (hk : PE X kx (tE C W .pk mb)) :
    PS X (.Assign [.Subscript (.Name x p) kx sp] e pp) (tS C F0 L0 H0 W lv fun ρ s => RS.of (R.of (dicOwn ρ i) s) ρ fun o s => RS.of (ma ρ s) ρ fun d s => RS.of (mb ρ s) ρ fun x s => RS.of (R.of (dSetK o x d) s) ρ fun o s => .nx (setO ρ i o) s) := by
  refine PS.imp (ps_dput hu hv hk ha hsw) fun D' σ H ⟨F, L, S, ρ, x, k, en, ow, q⟩ => ?_
  obtain ⟨xs, hi, q⟩ := q.got
  have hi := dicOwn_some hi
  obtain ⟨v, hsl, r0⟩ := en.own hi
  refine ⟨F, L, S, ρ, k, en, (Sn.of x en ow (Grow.refl _ _) q).imp fun F1 L1 H1 S1 d e1 k1 ⟨x1, en1, g1, q1⟩ w rw' => ?_⟩
  refine ⟨v, hsl, F1, L1, S1, ρ, k1, en1, (Sn.of x1 en1 ow g1 q1).imp fun F2 L2 H2 S2 y e2 k2 ⟨x2, en2, g2, q2⟩ u ru => ?_⟩
  obtain ⟨o, ho, q2⟩ := q2.got
  have hy : ∃ j, y = .str j := by cases y <;> first | exact ⟨_, rfl⟩ | cases ho
  obtain ⟨j, rfl⟩ := hy
  simp only [dSetK] at ho
  split at ho
  · rename_i hl
    cases ho
    obtain ⟨v', hsl', r'⟩ := en2.own hi
    rw [hsl] at hsl'
    cases hsl'
    obtain ⟨p', vs', rfl, h1', z', f', l', rr'⟩ := r'.dicAt
    have rw2 : Rep C F1 L1 w d := rw'
    have ru2 : Pk C F2 L2 H2 u (.str j) := ru
    have hlt : vs'.length < sizeLine := by rw [sizeBIG, rr'.length]; exact hl
    obtain ⟨a1, a2, a3, a4⟩ := own_dict (vs' := putK vs' (Sum.inr j) w) (xs' := putD xs j d) x2 k2 en2 ow hi hsl f' l' (Nat.le_trans (putK_len _ _ _) hlt) (putK_rep ru2.str.2 (rw2.up e2.ff e2.ll) rr')
    refine ⟨p', _, rfl, ?_, q2 _ _ _ _ a1 g2 a2 a3 a4⟩
    rw [ru2.str.1]
    exact DPut.k (k := Sum.inr j) h1' hlt
  · cases ho
/-! ### for -/
theorem RS.seq_assoc (r : RS) (f g : Env' → Sto → RS) : (r.seq f).seq g = r.seq fun ρ s => (f ρ s).seq g := by cases r <;> rfl
theorem s_for {tg iter : Expr} {body : List Stmt} {tgt' : Tg} {msrc : Env' → Sto → R (List D)} {mb : Env' → Sto → RS} (hK : X.K = C.K) (hp : PassesOwn (model X.prog X.w) X.A X.env X.xe) (hc : X.calm = true) (hi : PI X tg iter (tI C W true msrc)) (hg : PG X tg (gOf C.K tgt')) (hb : PSs X body (tS C F0 L0 H0 W lv mb)) (hs : ∀ x, foldedSetIterable iter X.env x = pure x) :
    PS X (.For tg iter body [] pos) (tS C F0 L0 H0 W lv fun ρ s => RS.of (msrc ρ s) ρ fun ds s => forLoop (fun d ρ s => RS.of (R.of (bindTg ρ tgt' d) s) ρ fun ρ' s => mb ρ' s) ds ρ s) := by
  refine PS.imp (ps_for hp hc hi hg hb hs) fun D' σ H ⟨F, L, S, ρ, x, k, en, ow, q⟩ => ⟨F, L, S, ρ, k, en, (Sn.of x en ow (Grow.refl _ _) q).imp fun F1 L1 H1 S1 ds e1 k1 ⟨x1, en1, g1, q1⟩ J hJ => ?_⟩
  refine ⟨fun i m σ' H' => m = ds.length - i ∧ i ≤ ds.length ∧ ∃ F' L' S' ρ', Ext F0 L0 H0 F' L' H' ∧ Ok C F' L' H' S' ∧ EnvOk C F' L' H' ρ' σ' ∧ OwnNew H0 ρ' σ' ∧ Grow F1 L1 F' L' ∧
    Sn C F0 L0 H0 F' L' W lv D' (forLoop (fun d ρ s => RS.of (R.of (bindTg ρ tgt' d) s) ρ fun ρ' s => mb ρ' s) (ds.drop i) ρ' S'), ⟨ds.length, by simp, Nat.zero_le _, F1, L1, S1, ρ, x1, k1, en1, ow, Grow.refl _ _, by rw [List.drop_zero]; exact q1.from g1⟩, ?_⟩
  rintro i m σ' H' ⟨rfl, hi, F', L', S', ρ', x', k', en', ow', hsub, q'⟩
  have ht : tgt true F1 L1 H1 F' L' H' := by simpa [tgt, Grow] using hsub
  by_cases hlt : i < ds.length
  · refine .inr ⟨hJ.go i F' L' H' S' ht k' hlt, fun σ2 H2 => i + 1 ≤ ds.length ∧ ∃ F' L' S' ρ', Ext F0 L0 H0 F' L' H2 ∧ Ok C F' L' H2 S' ∧ EnvOk C F' L' H2 ρ' σ2 ∧ OwnNew H0 ρ' σ2 ∧ Grow F1 L1 F' L' ∧
      Sn C F0 L0 H0 F' L' W lv D' (forLoop (fun d ρ s => RS.of (R.of (bindTg ρ tgt' d) s) ρ fun ρ' s => mb ρ' s) (ds.drop (i + 1)) ρ' S'), fun σ2 H2 h => ⟨ds.length - (i + 1), by omega, rfl, h⟩, fun y H2 hy => ?_⟩
    have hd : ds[i]? = some ds[i] := List.getElem?_eq_getElem hlt
    obtain ⟨F2, x2, k2, r2⟩ := hJ.yld i F' L' H' S' ds[i] ht k' hd y H2 hy
    have hdrop : ds.drop i = ds[i] :: ds.drop (i + 1) := List.drop_eq_getElem_cons hlt
    rw [hdrop] at q'
    simp only [forLoop] at q'
    cases hb' : bindTg ρ' tgt' ds[i] with
    | none => rw [hb'] at q'; exact False.elim q'
    | some ρ2 =>
      rw [hb'] at q'
      simp only [R.of_some, RS.of_ok] at q'
      refine g_okO k2 r2 hb' (en'.ext x2) ow' fun σ3 en3 ow3 => ⟨F2, L', S', ρ2, x'.trans x2, k2, en3, ow3, ?_⟩
      cases e : mb ρ2 S' with
      | nx ρ3 S3 =>
        rw [e] at q'
        intro F4 L4 H4 σ4 x4 g4 k4 en4 ow4
        have g5 : Grow F' L' F4 L4 := x2.grow.trans g4
        exact ⟨hlt, F4, L4, S3, ρ3, x4, k4, en4, ow4, hsub.trans g5, Sn.from g5 q'⟩
      | ret d S3 => rw [e] at q'; exact q'
      | exc z ρ3 S3 => rw [e] at q'; exact q'
      | stuck => rw [e] at q'; exact q'
  · have e : i = ds.length := by omega
    subst e
    rw [List.drop_length] at q'
    exact .inl ⟨hJ.stop _ F' L' H' S' ht k' (Nat.le_refl _), q' _ _ _ _ x' (Grow.refl _ _) k' en' ow'⟩
/-! ### while -/
theorem s_whl {c : Expr} {body : List Stmt} {mt : Env' → Sto → R Bool} {mb : Env' → Sto → RS} {n : Nat} (hp : PassesOwn (model X.prog X.w) X.A X.env X.xe) (hc : PT X c (tT C W mt)) (hb : PSs X body (tS C F0 L0 H0 W lv mb)) :
    PS X (.While c body [] pos) (tS C F0 L0 H0 W lv (whlLoop mt mb n)) := by
  refine PS.imp (ps_while hp hc hb) fun D' σ H ⟨F, L, S, ρ, x, k, en, ow, q⟩ => ?_
  refine ⟨fun m σ' H' => ∃ F' L' S' ρ', Ext F0 L0 H0 F' L' H' ∧ Ok C F' L' H' S' ∧ EnvOk C F' L' H' ρ' σ' ∧ OwnNew H0 ρ' σ' ∧ Grow F L F' L' ∧ Sn C F0 L0 H0 F' L' W lv D' (whlLoop mt mb m ρ' S'), ⟨n, F, L, S, ρ, x, k, en, ow, Grow.refl _ _, q⟩, ?_⟩
  rintro m σ' H' ⟨F', L', S', ρ', x', k', en', ow', hsub, q'⟩
  cases m with
  | zero => exact False.elim q'
  | succ m =>
    refine ⟨F', L', S', ρ', k', en', (Sn.of x' en' ow' (Grow.refl _ _) q').imp fun F1 L1 H1 S1 t e1 k1 ⟨x1, en1, g1, q1⟩ => ?_⟩
    cases t with
    | false => exact iteF (q1 _ _ _ _ x1 g1 k1 en1 ow')
    | true =>
      rw [if_pos rfl] at q1
      refine iteT ⟨fun σ2 H2 => ∃ F' L' S' ρ', Ext F0 L0 H0 F' L' H2 ∧ Ok C F' L' H2 S' ∧ EnvOk C F' L' H2 ρ' σ2 ∧ OwnNew H0 ρ' σ2 ∧ Grow F L F' L' ∧ Sn C F0 L0 H0 F' L' W lv D' (whlLoop mt mb m ρ' S'), fun σ2 H2 h => ⟨m, Nat.lt_succ_self m, h⟩, F1, L1, S1, ρ', x1, k1, en1, ow', ?_⟩
      cases e : mb ρ' S1 with
      | nx ρ3 S3 =>
        rw [e] at q1
        intro F4 L4 H4 σ4 x4 g4 k4 en4 ow4
        exact ⟨F4, L4, S3, ρ3, x4, k4, en4, ow4, hsub.trans (g1.trans g4), Sn.from (g1.trans g4) q1⟩
      | ret d S3 => rw [e] at q1; exact q1
      | exc z ρ3 S3 => rw [e] at q1; exact q1
      | stuck => rw [e] at q1; exact q1
/-! ### lists that are cells -/
theorem cellAt_ok {F : Hp} {L : List Addr} {H : Hp} {S : Sto} {v : V} {x : D} {xs : List D} (k : Ok C F L H S) (r : Rep C F L v x) (h : cellAt S x = some xs) : ∃ n p vs, x = .ref n ∧ v = .ref p ∧ L[n]? = some p ∧ S[n]? = some (.lst xs) ∧ H p = some (.lst vs) ∧ vs.length ≤ sizeLine ∧ RepAll C F L vs xs := by
  unfold cellAt at h
  split at h
  · rename_i n
    split at h
    · rename_i e
      cases h
      cases r with
      | ref hn =>
        obtain ⟨a, h1, h2⟩ := k.cells n _ e
        rw [hn] at h1
        cases h1
        cases h2 with
        | lst a b c => exact ⟨n, _, _, rfl, rfl, hn, e, a, b, c⟩
    · cases h
  · cases h
theorem m_cget (hK : X.K = C.K) (hs : PlainIx b) (ha : PE X a (tE C W .rep ma)) (hb : PE X b (tE C W .pk mb)) :
    PE X (.Subscript a b pos) (tE C W .rep fun ρ s => (ma ρ s).bind fun x s => (mb ρ s).bind fun y s => R.of (cGet s x y) s) := by
  refine PE.imp (pe_ix ix_seq ha hb hs) fun σ H Q ⟨F, L, S, ρ, k, en, q⟩ => ⟨F, L, S, ρ, k, en, q.bind.imp fun F1 L1 H1 S1 x e1 k1 q1 v1 r1 => ?_⟩
  refine ⟨F1, L1, S1, ρ, k1, en.ext e1, q1.bind.imp fun F2 L2 H2 S2 y e2 k2 q2 v2 r2 => ?_⟩
  obtain ⟨d, hd, qq⟩ := q2.of
  unfold cGet at hd
  split at hd
  · rename_i i
    obtain ⟨xs, h1, h2⟩ := Option.bind_eq_some_iff.mp hd
    have r1' : Rep C F1 L1 v1 x := r1
    obtain ⟨n, p, vs, rfl, rfl, _, _, hp, z, rr⟩ := cellAt_ok k2 (r1'.up e2.ff e2.ll) h1
    obtain ⟨v, h3, h4⟩ := atI_rep rr h2
    exact .inl ⟨p, vs, _, v, rfl, Pk.int r2, SqL.of hp, h3, qq.now k2 _ h4⟩
  · cases hd
theorem m_clen {p : Pos} (hK : X.K = C.K) (hg : Gl X "len") (hm : X.mg "len" = none) (hs : starEach [a] X.env = [(false, eval a X.env)]) (ha : PE X a (tE C W .rep ma)) :
    PE X (.Call (.Name "len" p) [a] [] pos) (tE C W .fr fun ρ s => (ma ρ s).bind fun x s => R.of (cLen s x) s) := by
  refine PE.imp (pe_callB call_len hg hm boot_len (pa_cons ha pa_nil hs) (by decide) (by decide) (by rw [hs]; rfl) rfl) fun σ H Q ⟨F, L, S, ρ, k, en, q⟩ => ⟨F, L, S, ρ, k, en, q.bind.imp fun F1 L1 H1 S1 x e1 k1 q1 v1 r1 => ?_⟩
  obtain ⟨d, hd, qq⟩ := q1.of
  unfold cLen at hd
  obtain ⟨xs, h1, rfl⟩ := Option.map_eq_some_iff.mp hd
  obtain ⟨n, p, vs, rfl, rfl, _, _, hp, z, rr⟩ := cellAt_ok k1 r1 h1
  refine ⟨_, _, rfl, .inl ⟨vs, SqL.of hp, rfl⟩, ?_⟩
  rw [rr.length]
  exact qq.now k1 _ (Vok.re rfl (.int _))
theorem m_ccat (ha : PE X a (tE C W .rep ma)) (hb : PE X b (tE C W .pk mb)) :
    PE X (.BinOp a .Add b pos) (tE C W .fr fun ρ s => (ma ρ s).bind fun x s => (mb ρ s).bind fun y s => R.of (cCat s x y) s) := by
  refine PE.imp (pe_op op_cat ha hb) fun σ H Q ⟨F, L, S, ρ, k, en, q⟩ => ⟨F, L, S, ρ, k, en, q.bind.imp fun F1 L1 H1 S1 x e1 k1 q1 v1 r1 => ?_⟩
  refine ⟨F1, L1, S1, ρ, k1, en.ext e1, q1.bind.imp fun F2 L2 H2 S2 y e2 k2 q2 v2 r2 => ?_⟩
  obtain ⟨d, hd, qq⟩ := q2.of
  unfold cCat at hd
  split at hd
  · rename_i ys
    obtain ⟨xs, h1, h2⟩ := Option.bind_eq_some_iff.mp hd
    have r1' : Rep C F1 L1 v1 x := r1
    obtain ⟨n, p, vs, rfl, rfl, _, _, hp, z, rr⟩ := cellAt_ok k2 (r1'.up e2.ff e2.ll) h1
    obtain ⟨p', vs', rfl, hp', z', rr'⟩ := Pk.list k2.sub r2
    obtain ⟨rfl, zz⟩ := mkLst_some h2
    have l1 := rr.length
    have l2 := rr'.length
    rw [List.length_append] at zz
    refine ⟨p, p', vs, vs', rfl, rfl, hp, hp', by omega, fun w hw => ?_⟩
    obtain ⟨x1, x2, x3⟩ := new_lst k2 hw (by rw [List.length_append]; omega) (rr.append rr')
    exact qq _ _ _ x1 x2 _ (Vok.fr (x3.from fun a h => (e1.trans e2).none_of h))
  · cases hd
theorem Ok.cset {F : Hp} {L : List Addr} {H : Hp} {S : Sto} {n : Nat} {p : Addr} {vs : List V} {xs : List D} (k : Ok C F L H S) (hn : L[n]? = some p) (z : vs.length ≤ sizeLine) (r : RepAll C F L vs xs) (hp : H p ≠ none) :
    Ok C F L (L2.upd H p (.lst vs)) (S.set n (.lst xs)) ∧ Ext F L H F L (L2.upd H p (.lst vs)) := by
  have hL : p ∈ L := List.mem_of_getElem? hn
  refine ⟨⟨fun a o h => ?_, k.fl, k.nd, by rw [List.length_set]; exact k.len, fun m c hc => ?_⟩, Sub.refl _, List.prefix_refl _, fun a o h hl => ?_, fun a ha h => ?_, fun _ _ h => .inl h, fun _ h => .inl h⟩
  · rw [L2.upd_ne fun e => by subst e; rw [k.fl _ hL] at h; cases h]; exact k.sub a o h
  · rcases set_get hc with ⟨rfl, rfl, _⟩ | ⟨ne, hc⟩
    · exact ⟨p, hn, .lst L2.upd_same z r⟩
    · obtain ⟨b, h1, h2⟩ := k.cells m c hc
      have hb : b ≠ p := fun e => by
        subst e
        exact ne ((List.getElem?_inj (List.getElem?_eq_some_iff.mp hn).1 k.nd).mp (hn.trans h1.symm))
      exact ⟨b, h1, h2.up (Sub.refl _) (List.prefix_refl _) (L2.upd_ne hb)⟩
  · rw [L2.upd_ne fun e => by subst e; exact hl hL]; exact h
  · by_cases e : a = p
    · subst e; rw [L2.upd_same]; simp
    · rw [L2.upd_ne e]; exact h
theorem s_cset {sp pp : Pos} {A kx e : Expr} (hA : PE X A (tE C W .rep mc)) (hsw : swapsWithSole [.Subscript A kx sp] e pp.line X.env = pure false) (hss : swappedStores [.Subscript A kx sp] e X.env = pure none) (ha : PE X e (tE C W .rep ma)) (hk : PE X kx (tE C W .pk mb))
    (hsub : ∀ v, assign (.Subscript A kx sp) X.env v = (do
      let ov ← holding [v] (eval A X.env)
      let iv ← holding [v, ov] (eval kx X.env)
      standAt sp
      holding [v, ov, iv] (setItem ov iv v)
      release [v, ov, iv] [])) :
    PS X (.Assign [.Subscript A kx sp] e pp) (tS C F0 L0 H0 W lv fun ρ s => RS.of (ma ρ s) ρ fun d s => RS.of (mc ρ s) ρ fun x s => RS.of (mb ρ s) ρ fun y s => RS.of (R.of (cSet s x y d) s) ρ fun s' _ => .nx ρ s') := by
  refine PS.imp (ps_asg ha (pg_sub hA hk set_list hsub) hsw hss) fun D' σ H ⟨F, L, S, ρ, x, k, en, ow, q⟩ => ?_
  refine ⟨F, L, S, ρ, k, en, (Sn.of x en ow (Grow.refl _ _) q).imp fun F1 L1 H1 S1 d e1 k1 ⟨x1, en1, g1, q1⟩ w rw' => ?_⟩
  refine ⟨F1, L1, S1, ρ, k1, en1, (Sn.of x1 en1 ow g1 q1).imp fun F2 L2 H2 S2 y e2 k2 ⟨x2, en2, g2, q2⟩ u ru => ?_⟩
  refine ⟨F2, L2, S2, ρ, k2, en2, (Sn.of x2 en2 ow g2 q2).imp fun F3 L3 H3 S3 z e3 k3 ⟨x3, en3, g3, q3⟩ t rt => ?_⟩
  obtain ⟨S4, ho, q3⟩ := q3.got
  unfold cSet at ho
  split at ho
  · rename_i i
    split at ho
    · rename_i n _
      obtain ⟨xs, h1, h2⟩ := Option.bind_eq_some_iff.mp ho
      obtain ⟨j, hj, rfl⟩ := Option.map_eq_some_iff.mp h2
      have ru' : Rep C F2 L2 u (.ref n) := ru
      obtain ⟨n', p, vs, e, rfl, hn, hS, hp, zz, rr⟩ := cellAt_ok k3 (ru'.up e3.ff e3.ll) h1
      cases e
      have rw2 : Rep C F1 L1 w d := rw'
      obtain ⟨a1, a2⟩ := k3.cset hn (vs := vs.set j w) (by rw [List.length_set]; exact zz) (RepAll.set (rw2.up (e2.trans e3).ff (e2.trans e3).ll) j rr) (by rw [hp]; simp)
      exact ⟨p, vs, _, j, rfl, Pk.int rt, hp, by rw [rr.length]; exact hj, q3 _ _ _ _ (x3.trans a2) g3 a1 (en3.ext a2) ow⟩
    · cases ho
  · cases ho
end
end MP

/-! MP: several names at once; a def by its body. -/
namespace MP
open PySem PySem.Spec PyProof.Rows L2
def lvO (o : Bool) : Lv := if o then .fr else .rep
/-- values of several expressions; those of own names are fresh since Hs, all different -/
inductive VAll (C : Cn) (F : Hp) (L : List Addr) (Hs H : Hp) : List Bool → List V → List D → Prop
  | nil : VAll C F L Hs H [] [] []
  | cons {o : Bool} {os : List Bool} {v : V} {vs : List V} {d : D} {ds : List D} : Vok C F L Hs H (lvO o) v d → VAll C F L Hs H os vs ds →
      (o = true → isFr d = true → ∀ (j : Nat) (w : V) (e : D), os[j]? = some true → vs[j]? = some w → ds[j]? = some e → isFr e = true → w ≠ v) → VAll C F L Hs H (o :: os) (v :: vs) (d :: ds)
def tL (C : Cn) (W : WX) (os : List Bool) (m : Env' → Sto → R (List D)) : TA := fun σ H Q => ∃ F L S ρ, Ok C F L H S ∧ EnvOk C F L H ρ σ ∧
  Rn C W σ F L H (m ρ S) fun F' L' H' _ ds => ∀ vs, VAll C F' L' H H' os vs ds → Q vs H'
section
variable {C : Cn} {F0 : Hp} {L0 : List Addr} {H0 : Hp} {W : WX} {X : Cx} {lv lw : Lv} {a b c : Expr} {pos : Pos} {ma mb mc : Env' → Sto → R D} {F F' F1 : Hp} {L L' L1 : List Addr} {H H' H1 Hs : Hp} {S : Sto} {ρ ρ' : Env'} {σ σ' : Sg} {D' : Ends} {es : List Expr} {ms : Env' → Sto → R (List D)} {os : List Bool} {o : Bool}
theorem VAll.from {vs : List V} {ds : List D} (x : VAll C F L H1 H os vs ds) (h : ∀ a, H1 a = none → Hs a = none) : VAll C F L Hs H os vs ds := by
  induction x with
  | nil => exact .nil
  | cons r t n ih => exact .cons (r.from h) ih n
theorem VAll.fresh {vs : List V} {ds : List D} (x : VAll C F L Hs H os vs ds) : ∀ {j : Nat} {w : V} {e : D}, os[j]? = some true → vs[j]? = some w → ds[j]? = some e → isFr e = true → ∃ p, w = .ref p ∧ Hs p = none := by
  induction x with
  | nil => intro j w e h; simp at h
  | cons r t n ih =>
    intro j w e h1 h2 h3 h4
    cases j with
    | zero =>
      simp at h1 h2 h3
      subst h1 h2 h3
      rename_i vv dd _ _
      have r2 := r
      simp only [Vok, lvO, h4, if_true] at r2
      obtain ⟨p, o, e1, _, e2, _⟩ := Fr.at_ r2
      exact ⟨p, e1, e2⟩
    | succ j => exact ih (by simpa using h1) (by simpa using h2) (by simpa using h3) h4
theorem VAll.length {vs : List V} {ds : List D} (x : VAll C F L Hs H os vs ds) : vs.length = ds.length ∧ vs.length = os.length := by
  induction x with
  | nil => exact ⟨rfl, rfl⟩
  | cons r t n ih => simp only [List.length_cons]; omega
theorem Vok.ext {v : V} {d : D} (x : Vok C F L Hs H (lvO o) v d) (e : Ext F L H F1 L1 H1) : Vok C F1 L1 Hs H1 (lvO o) v d := by
  cases o with
  | false => exact Rep.up e.ff e.ll (show Rep C F L v d from x)
  | true =>
    by_cases h : isFr d = true
    · have x' : Fr C F L Hs H v d := by simpa [Vok, lvO, h] using x
      exact Vok.fr (x'.ext e)
    · have x' : Rep C F L v d := by simpa [Vok, lvO, h] using x
      exact Vok.re (by simpa using h) (x'.up e.ff e.ll)
theorem m_lnil : PA X [] (tL C W [] fun _ s => .ok [] s) := PA.imp pa_nil fun σ H Q ⟨F, L, S, ρ, k, en, q⟩ => q.now k [] .nil
theorem m_lcons (hs : starEach (a :: es) X.env = (false, eval a X.env) :: starEach es X.env) (ha : PE X a (tE C W (lvO o) ma)) (he : PA X es (tL C W os ms)) :
    PA X (a :: es) (tL C W (o :: os) fun ρ s => (ma ρ s).bind fun d s => (ms ρ s).bind fun ds s => .ok (d :: ds) s) := by
  refine PA.imp (pa_cons ha he hs) fun σ H Q ⟨F, L, S, ρ, k, en, q⟩ => ⟨F, L, S, ρ, k, en, q.bind.imp fun F1 L1 H1 S1 x e1 k1 q1 v1 r1 => ?_⟩
  refine ⟨F1, L1, S1, ρ, k1, en.ext e1, q1.bind.imp fun F2 L2 H2 S2 ds e2 k2 q2 vs rs => q2.now k2 _ (.cons (Vok.ext r1 e2) (rs.from fun a h => e1.none_of h) fun ho hd j w e h1 h2 h3 h4 hw => ?_)⟩
  subst ho hw
  obtain ⟨p, e3, n⟩ := rs.fresh h1 h2 h3 h4
  have r' : Fr C F1 L1 H H1 w x := by simpa [Vok, lvO, hd] using r1
  obtain ⟨p', o, e4, h5, _⟩ := r'.at_
  rw [e3] at e4
  cases e4
  rw [n] at h5
  cases h5
theorem EnvOk.setO1 {i : Nat} {v : V} {d : D} (en1 : EnvOk C F L H ρ σ) (r : Fr C F L (fun _ => none) H v d) (other : ∀ {m : Nat} {e : D} {w : V}, ρ[m]? = some (.own e) → σ[m]? = some (some w) → w ≠ v) : EnvOk C F L H (MP.setO ρ i d) (σ.set i (some v)) where
  len := by unfold MP.setO; rw [List.length_set, List.length_set]; exact en1.len
  slot := fun j z x h1 h2 => by
    unfold MP.setO at h1
    rcases set_get h1 with ⟨e1, rfl, _⟩ | ⟨n1, h1⟩
    · rcases set_get h2 with ⟨_, rfl, _⟩ | ⟨n2, _⟩
      · exact ⟨v, rfl, r⟩
      · exact absurd e1 n2
    · rcases set_get h2 with ⟨e2, _, _⟩ | ⟨_, h2⟩
      · exact absurd e2 n1
      · exact en1.slot j z x h1 h2
  sep := fun j k e e' w h1 h2 h3 h4 => by
    unfold MP.setO at h1 h2
    rcases set_get h1 with ⟨a1, _, _⟩ | ⟨n1, h1⟩ <;> rcases set_get h2 with ⟨a2, _, _⟩ | ⟨n2, h2⟩
    · exact a1.symm.trans a2
    · rcases set_get h3 with ⟨_, b1, _⟩ | ⟨z, _⟩
      · rcases set_get h4 with ⟨z, _⟩ | ⟨_, h4⟩
        · exact absurd z n2
        · cases b1; exact absurd rfl (other h2 h4)
      · exact absurd a1 z
    · rcases set_get h4 with ⟨_, b1, _⟩ | ⟨z, _⟩
      · rcases set_get h3 with ⟨z, _⟩ | ⟨_, h3⟩
        · exact absurd z n1
        · cases b1; exact absurd rfl (other h1 h3)
      · exact absurd a2 z
    · rcases set_get h3 with ⟨z, _⟩ | ⟨_, h3⟩
      · exact absurd z n1
      · rcases set_get h4 with ⟨z, _⟩ | ⟨_, h4⟩
        · exact absurd z n2
        · exact en1.sep j k e e' w h1 h2 h3 h4
def setVals : List (Bool × Nat) → List V → Sg → Sg
  | [], _, σ => σ
  | _ :: _, [], σ => σ
  | (_, i) :: is, v :: vs, σ => setVals is vs (σ.set i (some v))
/-- all stored -/
theorem par_ok (x : Ext F0 L0 H0 F L H) (hHs : ∀ a, Hs a = none → H0 a = none) : ∀ {is : List (Bool × Nat)} {vs : List V} {ds : List D} {ρ ρ' : Env'} {σ : Sg}, VAll C F L Hs H (is.map (·.1)) vs ds → setPar ρ is ds = some ρ' → EnvOk C F L H ρ σ → OwnNew H0 ρ σ →
    (∀ (m : Nat) (e : D) (w : V) (j : Nat) (u : V) (f : D), ρ[m]? = some (.own e) → σ[m]? = some (some w) → (is.map (·.1))[j]? = some true → vs[j]? = some u → ds[j]? = some f → isFr f = true → w ≠ u) →
    EnvOk C F L H ρ' (setVals is vs σ) ∧ OwnNew H0 ρ' (setVals is vs σ)
  | [], _, _, ρ, ρ', σ, .nil, h, en, ow, _ => by simp [setPar] at h; subst h; exact ⟨en, ow⟩
  | (o, i) :: is, v :: vs, d :: ds, ρ, ρ', σ, .cons r t n, h, en, ow, dis => by
    simp only [setPar] at h
    split at h
    · cases h
    · rename_i hc
      unfold setVals
      cases o with
      | true =>
        have hd : isFr d = true := by simpa using hc
        have r' : Fr C F L Hs H v d := by simpa [Vok, lvO, hd] using r
        obtain ⟨p, ob, hv, _, np, _⟩ := r'.at_
        simp only [if_true] at h
        refine par_ok x hHs t h (en.setO1 r'.own fun {m e w} h1 h2 => dis m e w 0 v d h1 h2 rfl rfl rfl hd) (ow.setO hv (hHs _ np)) fun m e w j u f h1 h2 h3 h4 h5 h6 => ?_
        unfold setO at h1
        rcases set_get h1 with ⟨e1, _, _⟩ | ⟨n1, h1⟩
        · rcases set_get h2 with ⟨_, b, _⟩ | ⟨n2, _⟩
          · cases b
            exact (n rfl hd j u f h3 h4 h5 h6).symm
          · exact absurd e1 n2
        · rcases set_get h2 with ⟨e2, _, _⟩ | ⟨_, h2⟩
          · exact absurd e2 n1
          · exact dis m e w (j + 1) u f h1 h2 (by simpa using h3) (by simpa using h4) (by simpa using h5) h6
      | false =>
        have r' : Rep C F L v d := r
        simp only [Bool.false_eq_true, if_false] at h
        refine par_ok x hHs t h (en.setI r') ow.setI fun m e w j u f h1 h2 h3 h4 h5 h6 => ?_
        unfold setI at h1
        rcases set_get h1 with ⟨_, b, _⟩ | ⟨n1, h1⟩
        · cases b
        · rcases set_get h2 with ⟨e2, _, _⟩ | ⟨_, h2⟩
          · exact absurd e2 n1
          · exact dis m e w (j + 1) u f h1 h2 (by simpa using h3) (by simpa using h4) (by simpa using h5) h6
/-- a, b = e1, e2: by a rule whose reading leans on tL -/
theorem s_par {st : Stmt} {is : List (Bool × Nat)} {t : TS} (h : PS X st t)
    (ht : ∀ D' σ H, tL C W (is.map (·.1)) ms σ H (fun vs H1 => ∀ H2, (H2 = H1 ∨ ∃ p, H1 p = none ∧ H2 = upd H1 p (.tup vs)) → D'.nx (setVals is vs σ) H2) → t D' σ H) :
    PS X st (tS C F0 L0 H0 W lv fun ρ s => RS.of (ms ρ s) ρ fun ds s => RS.of (R.of (setPar ρ is ds) s) ρ fun ρ' s => .nx ρ' s) := by
  refine PS.imp h fun D' σ H ⟨F, L, S, ρ, x, k, en, ow, q⟩ => ht _ _ _ ⟨F, L, S, ρ, k, en, (Sn.of x en ow (Grow.refl _ _) q).imp fun F1 L1 H1 S1 ds e1 k1 ⟨x1, en1, g1, q1⟩ vs r H2 hH2 => ?_⟩
  obtain ⟨ρ', h, q1⟩ := q1.got
  have dis : ∀ (m : Nat) (e : D) (w : V) (j : Nat) (u : V) (f : D), ρ[m]? = some (.own e) → σ[m]? = some (some w) → (is.map (·.1))[j]? = some true → vs[j]? = some u → ds[j]? = some f → isFr f = true → w ≠ u := fun m e w j u f h1 h2 h3 h4 h5 h6 hw => by
    obtain ⟨w', q4, q5⟩ := en.own h1
    rw [h2] at q4
    cases q4
    obtain ⟨p, o, e2, q6, _⟩ := q5.at_
    obtain ⟨p', e3, n⟩ := r.fresh h3 h4 h5 h6
    rw [hw, e3] at e2
    cases e2
    rw [n] at q6
    cases q6
  obtain ⟨en2, ow2⟩ := par_ok x1 (fun a h => x.none_of h) r h en1 ow dis
  rcases hH2 with rfl | ⟨p, n, rfl⟩
  · exact q1 _ _ _ _ x1 g1 k1 en2 ow2
  · exact q1 _ _ _ _ (x1.laid n) g1 (k1.laid n) (en2.ext ((Ext.refl _ _ _).laid n)) ow2
end
end MP

/-! MP: what is looked at, the lookers. -/
namespace MP
open PySem PySem.Spec PyProof.Rows L2
def notStar : Expr → Bool | .Starred _ _ => false | _ => true
def notSl : Expr → Bool | .Slice _ _ _ _ => false | _ => true
def notSet : Expr → Bool | .Set _ _ _ => false | _ => true
def notCall0 : Expr → Bool | .Call _ _ _ _ => false | _ => true
def notComp : Expr → Bool | .ListComp _ _ _ _ | .SetComp _ _ _ _ | .DictComp _ _ _ _ _ => false | _ => true
def plainT : Expr → Bool | .UnaryOp .Not _ _ | .BoolOp _ _ _ | .IfExp _ _ _ _ | .Compare _ _ _ _ => false | _ => true
theorem star_cons {a : Expr} {es : List Expr} {env : Env} (h : notStar a = true) : starEach (a :: es) env = (false, eval a env) :: starEach es env := by cases a <;> first | rfl | cases h
theorem star_one {a : Expr} {env : Env} (h : notStar a = true) : starEach [a] env = [(false, eval a env)] := star_cons h
theorem star_two {a b : Expr} {env : Env} (h : notStar a = true) (h2 : notStar b = true) : starEach [a, b] env = [(false, eval a env), (false, eval b env)] := by rw [star_cons h, star_one h2]
theorem star_none {pos : Pos} {env : Env} : ∀ {es : List Expr}, es.all notStar = true → (backTo pos (starEach es env)).any (·.1) = false
  | [], _ => rfl
  | e :: es, h => by
    simp only [List.all_cons, Bool.and_eq_true] at h
    rw [star_cons h.1]
    have := star_none (pos := pos) (env := env) h.2
    simpa [backTo] using this
theorem plainIx {b : Expr} (h : notSl b = true) : PlainIx b := fun o i => by cases b <;> first | rfl | cases h
theorem noSl {b : Expr} (h : notSl b = true) : NoSl b := fun o i => by cases b <;> first | rfl | cases h
theorem ab_of {o : Expr} {n : Str} {env : Env} {w : Sem Value} (h : notCall0 o = true) : attributeBase o n env w = w := by cases o <;> first | rfl | cases h
theorem fs_of {e : Expr} {env : Env} (h : notSet e = true) : ∀ x, foldedSetIterable e env x = pure x := fun x => by cases e <;> first | rfl | cases h
theorem bm_of {op : CmpOp} {e : Expr} (h : notSet e = true) : behindInMarks op e = false := by cases e <;> first | rfl | cases h
theorem it_of {e : Expr} {env : Env} (h : plainT e = true) : ∀ w, isTrue e env w = (do let v ← w; standAt e.pos; holding [v] (truthy v)) := fun w => by
  cases e <;> first | rfl | (cases h; done) | (rename_i op _ _; cases op <;> first | rfl | cases h)
theorem sw_of {e : Expr} {t : Option Expr} {l : Nat} {env : Env} (h : notComp e = true) : swapsWith e t l env = pure false := by cases e <;> first | rfl | cases h
def Lv.le : Lv → Lv → Bool
  | .pk, _ => true
  | .rep, .rep | .rep, .fr | .fr, .fr => true
  | _, _ => false
section
variable {C : Cn} {W : WX} {X : Cx} {lv lw : Lv} {a b c : Expr} {pos : Pos} {ma mb mc : Env' → Sto → R D} {es : List Expr} {ms : Env' → Sto → R (List D)}
theorem wk (h : lv.le lw = true) (p : PE X a (tE C W lw ma)) : PE X a (tE C W lv ma) := by
  cases lv <;> cases lw <;> first | exact p | exact pe_rep p | exact pe_rep (pe_fr p) | exact pe_fr p | cases h
theorem pe_bool1 {op : BoolOp} (h : PE X a (tE C W lv ma)) : PE X (.BoolOp op [a] pos) (tE C W lv ma) := ⟨fun pins s σ H Q I q => h.run pins s σ H Q I q⟩
theorem pw_of {op : BoolOp} {m : TT} (h : PT X (.BoolOp op es pos) m) : PW X (.BoolOp op es pos) m := ⟨fun w pins s σ H Q I q => h.run pins s σ H Q I q⟩
theorem m_tand {rest : List Expr} {m n : Env' → Sto → R Bool} (ha : PT X a (tT C W m)) (hb : PT X (.BoolOp .And (b :: rest) pos) (tT C W n)) : PT X (.BoolOp .And (a :: b :: rest) pos) (tT C W fun ρ s => (m ρ s).bind fun t s => if t then n ρ s else .ok false s) :=
  PT.imp (pw_and ha (pw_of hb)).pt fun σ H Q q => tT.and q
theorem m_tor {rest : List Expr} {m n : Env' → Sto → R Bool} (ha : PT X a (tT C W m)) (hb : PT X (.BoolOp .Or (b :: rest) pos) (tT C W n)) : PT X (.BoolOp .Or (a :: b :: rest) pos) (tT C W fun ρ s => (m ρ s).bind fun t s => if t then .ok true s else n ρ s) :=
  PT.imp (pw_or ha (pw_of hb)).pt fun σ H Q q => tT.or q
theorem m_tchain {op op' : CmpOp} {r r' : R2} {f g : D → D → Option Bool} (ho : OpR X (compareOp op) r) (hf : OpOk C .fr r (fun x y => (f x y).map .bl)) (ho' : OpR X (compareOp op') r') (hg : OpOk C .fr r' (fun x y => (g x y).map .bl))
    (hm : lastMarks [op, op'] [b, c] = false) (ha : PE X a (tE C W .pk ma)) (hb : PE X b (tE C W .pk mb)) (hc : PE X c (tE C W .pk mc)) :
    PT X (.Compare a [op, op'] [b, c] pos) (tT C W fun ρ s => (ma ρ s).bind fun x s => (mb ρ s).bind fun y s => (R.of (f x y) s).bind fun t s => if t then (mc ρ s).bind fun z s => R.of (g y z) s else .ok false s) := by
  refine PT.imp (pt_chain ho ho' ha hb hc hm) fun σ H Q ⟨F, L, S, ρ, k, en, q⟩ => ⟨F, L, S, ρ, k, en, q.bind.imp fun F1 L1 H1 S1 x e1 k1 q1 v1 r1 => ?_⟩
  refine ⟨F1, L1, S1, ρ, k1, en.ext e1, q1.bind.imp fun F2 L2 H2 S2 y e2 k2 q2 v2 r2 => ?_⟩
  obtain ⟨t, ht, q2⟩ := q2.bind.of
  have q2 := q2.now k2
  refine hf _ _ _ _ _ _ _ _ (.bl t) _ k2 (Pk.ext r1 e2) r2 (by show Option.map D.bl (f x y) = _; rw [ht]; rfl) fun F' L' H' v e k' r => ?_
  have r' : Rep C F' L' v (.bl t) := by simpa [Vok, isFr] using r
  cases r'
  refine ⟨t, rfl, ?_⟩
  cases t with
  | false =>
    have q3 := (q2.start e).now k'
    exact iteF ⟨false, rfl, q3⟩
  | true =>
    rw [if_pos rfl] at q2
    refine iteT ⟨F', L', S2, ρ, k', ((en.ext e1).ext e2).ext e, (q2.start e).bind.imp fun F3 L3 H3 S3 z e3 k3 q4 v3 r3 => ?_⟩
    obtain ⟨d, hd, q4⟩ := q4.of
    refine hg _ _ _ _ _ _ _ _ (.bl d) _ k3 ((Pk.ext r2 e).ext e3) r3 (by show Option.map D.bl (g y z) = _; rw [hd]; rfl) fun F4 L4 H4 v e4 k4 r4 => ?_
    have r5 : Rep C F4 L4 v (.bl d) := by simpa [Vok, isFr] using r4
    cases r5
    exact ⟨d, rfl, (q4.start e4).now k4⟩
end
/-! ### what is known around a def's body -/
/-- a form of a def's own choice: its parts, how they are read -/
structure Hook where
  mt : Scope → Expr → Option (List Expr)
  lv : Lv
  out : Lv
inductive FI where
  | fn (x : Str) (n : Nat) (fr : Bool)
  | hk (h : Hook)
structure Gm where
  N : List Str
  sc : Scope
  own : List Str
  fns : List FI
  tk : List (Str × List Str)
/-- the expressions of a form -/
inductive PL (C : Cn) (W : WX) (X : Cx) (lv : Lv) : List Expr → (Env' → Sto → R (List D)) → Prop
  | nil : PL C W X lv [] fun _ s => .ok [] s
  | cons {e : Expr} {es : List Expr} {m : Env' → Sto → R D} {ms : Env' → Sto → R (List D)} : PE X e (tE C W lv m) → PL C W X lv es ms → PL C W X lv (e :: es) fun ρ s => (m ρ s).bind fun d s => (ms ρ s).bind fun ds s => .ok (d :: ds) s
def bltNames : List Str := ["len", "int", "list", "tuple", "sum", "str", "max", "all", "any", "range", "enumerate", "zip", "isinstance", "bool", "dict"]
/-- what stays alike through a def -/
structure Bs where
  prog : Program
  w : World
  K : PySem.W.Frag
  mg : Str → Option Value
  base : Heap
  A : Around
def Cx.bs (X : Cx) : Bs := ⟨X.prog, X.w, X.K, X.mg, X.base, X.A⟩
structure HookOk (C : Cn) (B : Bs) (h : Hook) (f : FS) : Prop where
  ex : ∀ (X : Cx) (W : WX) (ex : Expr) (es : List Expr) (ms : Env' → Sto → R (List D)), Cx.bs X = B → X.K = C.K → X.calm = true → X.A.units + 65 < cLine → Takes X W → h.mt X.env.scope ex = some es → PL C W X h.lv es ms → PE X ex (tE C W h.out fun ρ s => (ms ρ s).bind fun ds s => f ds s)
structure FnB (C : Cn) (B : Bs) (x : Str) (n : Nat) (fr : Bool) (f : FS) : Prop where
  ex : ∃ (k : Nat) (a : Addr) (fd : FuncData) (ps : List Str), FnOk B.prog B.w B.K B.mg B.base (L2.CX B.prog B.w) k a fd ps (spD C n fr f) ∧ Room k B.A ∧ B.mg x = some (.ref a) ∧ PySem.W.keepIn B.K (.ref a) = true ∧ Binds B.K fd ps []
def FIOk (C : Cn) (B : Bs) (i : FI) (f : FS) : Prop := match i with
  | .fn x n fr => FnB C B x n fr f
  | .hk h => HookOk C B h f
theorem FnB.at {C : Cn} {X : Cx} {x : Str} {n : Nat} {fr : Bool} {f : FS} (h : FnB C (Cx.bs X) x n fr f) : FnAt C X x n fr f := ⟨h.ex⟩
inductive FIs (C : Cn) (B : Bs) : List FI → List FS → Prop
  | nil : FIs C B [] []
  | cons {i : FI} {f : FS} {is : List FI} {fs : List FS} : FIOk C B i f → FIs C B is fs → FIs C B (i :: is) (f :: fs)
def fnL (fs : List FS) (k : Nat) : FS := match fs[k]? with | some f => f | none => fun _ _ => .stuck
theorem FIs.at {C : Cn} {B : Bs} : ∀ {is : List FI} {fs : List FS} {k : Nat} {i : FI}, FIs C B is fs → is[k]? = some i → FIOk C B i (fnL fs k)
  | _, _, 0, i, .cons h _, e => by cases e; exact h
  | _, _, k + 1, i, .cons _ t, e => by
    have := t.at (k := k) (by simpa using e)
    simpa [fnL] using this
/-- of the defs' whole table -/
structure GoodB (C : Cn) (Γ : Gm) (fs : List FS) (B : Bs) : Prop where
  hK : B.K = C.K
  units : B.A.units + 65 < cLine
  fns : FIs C B Γ.fns fs
  blt : ∀ x ∈ bltNames, B.mg x = none
  tk : ∀ p ∈ Γ.tk, TupK B.K B.mg p.1 p.2
  prg : PrgOk C
structure Good (C : Cn) (W : WX) (Γ : Gm) (fs : List FS) (X : Cx) : Prop where
  b : GoodB C Γ fs (Cx.bs X)
  calm : X.calm = true
  nodup : Γ.N.Nodup
  hN : X.N = Γ.N
  sc : X.env.scope = Γ.sc
  own : ∀ x ∈ Γ.own, X.fn x = true
  tk : Takes X W
/-! ### the lookers -/
def dbgOk (x : Str) : Bool := !(x == ("__debug__" : Str)) && !(x == ("__classdict__" : Str))
def visB (sc : Scope) (x : Str) : Bool := match sc.names.lookup x with | some .local | some .cell | some .free => true | _ => false
def nmB (Γ : Gm) (i : Nat) (x : Str) : Bool := decide (Γ.N[i]? = some x) && visB Γ.sc x && dbgOk x
def glB (sc : Scope) (x : Str) : Bool := decide (sc.names.lookup x = some .globalImplicit) && dbgOk x
def stB (Γ : Gm) (i : Nat) (x : Str) : Bool := decide (Γ.N[i]? = some x) && (decide (Γ.sc.names.lookup x = some .local) || (decide (Γ.sc.names.lookup x = some .cell) && decide (x ∈ Γ.own)))
def litOk : D → Const → Bool
  | .non, .none => true
  | .bl a, .bool b => a == b
  | .int i, .int j => decide (i = j)
  | .str x, .str y => decide (x = y) && sOk x
  | _, _ => false
def tgsB (Γ : Gm) : List Nat → List Expr → Bool
  | [], [] => true
  | i :: is, .Name x _ :: es => stB Γ i x && tgsB Γ is es
  | _, _ => false
def tgB (Γ : Gm) : Tg → Expr → Bool
  | .one i, .Name x _ => stB Γ i x
  | .tup is, .Tuple es _ _ => tgsB Γ is es
  | _, _ => false
def tgInB (vs : List Nat) : Tg → Bool
  | .one i => decide (i ∈ vs)
  | .tup is => is.all fun i => decide (i ∈ vs)
def isTupE : Expr → Bool | .Tuple _ _ _ => true | _ => false
def Gm.blk (Γ : Gm) (scope : Scope) (ow : List (Str × Nat)) : Gm := { Γ with sc := relS scope Γ.sc, own := (ow.map (·.1)).filter fun x => decide (scope.names.lookup x = some .cell) }
def owOf (Γ : Gm) (own : List Nat) : List (Str × Nat) := own.map fun i => ((Γ.N[i]?).getD "", i)
def opN (n : Bool) : CmpOp := if n then .IsNot else .Is
def noStars : List E → Bool
  | [] => true
  | .star _ :: _ => false
  | _ :: es => noStars es
mutual
def chkE (Γ : Gm) (t : Bool) (lv : Lv) (e : E) (ex : Expr) : Bool := match e with
  | .lit d => (match ex with | .Constant c _ _ => litOk d c | _ => false)
  | .glob _ _ => false
  | .star _ => false
  | .var i => lv.le .rep && (match ex with | .Name x _ => nmB Γ i x | _ => false)
  | .pk i => lv.le .pk && (match ex with | .Name x _ => nmB Γ i x | _ => false)
  | .tup es => (match ex with | .Tuple xs _ _ => chkEs Γ es xs | _ => false)
  | .lst es => (match ex with | .List xs _ => chkEs Γ es xs | _ => false)
  | .bin o a b => (match ex with | .BinOp x op y _ => decide (op = opOf o) && chkE Γ false .pk a x && chkE Γ false .pk b y | _ => false)
  | .neg a => (match ex with | .UnaryOp .USub x _ => chkE Γ false .pk a x | _ => false)
  | .cmp o a b => (match ex with | .Compare x [op] [y] _ => decide (op = cmpOf o) && notSet y && chkE Γ false .pk a x && chkE Γ false .pk b y | _ => false)
  | .isN n a => (match ex with | .Compare x [op] [.Constant .none _ _] _ => decide (op = opN n) && chkE Γ false .pk a x | _ => false)
  | .chain o p a b c => (match ex with | .Compare x [op, op'] [y, z] _ => decide (op = cmpOf o) && decide (op' = cmpOf p) && notSet z && chkE Γ false .pk a x && chkE Γ false .pk b y && chkE Γ false .pk c z | _ => false)
  | .and a b => (match ex with
    | .BoolOp .And [x, y] _ => chkE Γ t lv a x && chkE Γ t lv b y
    | .BoolOp .And (x :: y :: z :: r) p => chkE Γ t lv a x && chkE Γ t lv b (.BoolOp .And (y :: z :: r) p)
    | _ => false)
  | .or a b => (match ex with
    | .BoolOp .Or [x, y] _ => chkE Γ t lv a x && chkE Γ t lv b y
    | .BoolOp .Or (x :: y :: z :: r) p => chkE Γ t lv a x && chkE Γ t lv b (.BoolOp .Or (y :: z :: r) p)
    | _ => false)
  | .not a => (match ex with | .UnaryOp .Not x _ => chkE Γ t .pk a x | _ => false)
  | .ite c a b => !t && (match ex with | .IfExp z x y _ => chkE Γ true .pk c z && chkE Γ false lv a x && chkE Γ false lv b y | _ => false)
  | .idx a i => lv.le .rep && (match ex with | .Subscript x y _ => notSl y && chkE Γ false .pk a x && chkE Γ false .pk i y | _ => false)
  | .slice a lo hi => (match ex with | .Subscript x (.Slice l h none _) _ => chkE Γ false .pk a x && chkO Γ lo l && chkO Γ hi h | _ => false)
  | .fld f a => lv.le .rep && (match ex with | .Attribute x n _ => decide (n = fldName f) && notCall0 x && chkE Γ false .pk a x | _ => false)
  | .call k es => (match Γ.fns[k]? with
    | some (.fn x n fr) => lv.le (lvOf fr) && (match ex with
      | .Call (.Name y _) (z :: zs) [] _ => decide (y = x) && glB Γ.sc x && decide (es.length = n) && decide (zs.length + 1 = n) && noStars es && (z :: zs).all notStar && chkL Γ .rep es (z :: zs)
      | _ => false)
    | some (.hk h) => lv.le h.out && (!t || plainT ex) && (match h.mt Γ.sc ex with | some xs => chkL Γ h.lv es xs | none => false)
    | none => false)
  | .blt b es => (match ex with | .Call (.Name y _) (z :: zs) [] _ => decide (y = bltName b) && glB Γ.sc y && (z :: zs).all notStar && chkL Γ .pk es (z :: zs) | _ => false)
  | .isi ts a => (match ts, ex with
    | [u], .Call (.Name y _) [x, .Name z _] [] _ => decide (y = ("isinstance" : Str)) && glB Γ.sc y && decide (z = (tyName u : Str)) && glB Γ.sc z && notStar x && chkE Γ false .pk a x
    | [u, v], .Call (.Name y _) [x, .Tuple [.Name z _, .Name w _] _ _] [] _ => decide (y = ("isinstance" : Str)) && glB Γ.sc y && decide (z = (tyName u : Str)) && glB Γ.sc z && decide (w = (tyName v : Str)) && glB Γ.sc w && notStar x && chkE Γ false .pk a x
    | _, _ => false)
  | .join a e => (match ex with | .Call (.Attribute x n ap) [y] [] cp => decide (n = ("join" : Str)) && notCall0 x && decide (ap.endLine = cp.line) && notStar y && chkE Γ false .pk a x && chkE Γ false .pk e y | _ => false)
  | .comp own tg src ifs elt => (match ex with
    | .ListComp el [⟨tx, it, cs, 0⟩] scope _ => blkC Γ.N Γ.sc scope (owOf Γ own) && tgInB own tg && tgB (Γ.blk scope (owOf Γ own)) tg tx && notSet it && chkSrc Γ false src tx it && chkIf (Γ.blk scope (owOf Γ own)) ifs cs && chkE (Γ.blk scope (owOf Γ own)) false .rep elt el
    | _ => false)
  | .dcomp own tg src key val => (match ex with
    | .DictComp kx vx [⟨tx, it, [], 0⟩] scope _ => blkC Γ.N Γ.sc scope (owOf Γ own) && tgInB own tg && tgB (Γ.blk scope (owOf Γ own)) tg tx && notSet it && chkSrc Γ false src tx it && chkE (Γ.blk scope (owOf Γ own)) false .rep key kx && chkE (Γ.blk scope (owOf Γ own)) false .rep val vx
    | _ => false)
  | .dic0 => (match ex with | .Dict [] [] _ => true | _ => false)
  | .cidx x ys a => (match ex with | .Call (.Attribute (.Name y _) n ap) [z] [] cp => decide ((y, ys) ∈ Γ.tk) && decide (n = ("index" : Str)) && glB Γ.sc y && decide (ap.endLine = cp.line) && notStar z && chkE Γ false .pk a z | _ => false)
  | .cell a => lv.le .rep && !t && chkE Γ false .fr a ex
  | .cget a i => lv.le .rep && (match ex with | .Subscript x y _ => notSl y && chkE Γ false .rep a x && chkE Γ false .pk i y | _ => false)
  | .clen a => (match ex with | .Call (.Name y _) [x] [] _ => decide (y = ("len" : Str)) && glB Γ.sc y && notStar x && chkE Γ false .rep a x | _ => false)
  | .ccat a b => (match ex with | .BinOp x .Add y _ => chkE Γ false .rep a x && chkE Γ false .pk b y | _ => false)
def chkEs (Γ : Gm) (es : List E) (xs : List Expr) : Bool := match es with
  | [] => (match xs with | [] => true | _ => false)
  | .star a :: es => (match xs with | .Starred x _ :: xs => chkE Γ false .pk a x && chkEs Γ es xs | _ => false)
  | e :: es => (match xs with | x :: xs => notStar x && chkE Γ false .rep e x && chkEs Γ es xs | _ => false)
def chkL (Γ : Gm) (lv : Lv) (es : List E) (xs : List Expr) : Bool := match es with
  | [] => (match xs with | [] => true | _ => false)
  | e :: es => (match xs with | x :: xs => chkE Γ false lv e x && chkL Γ lv es xs | _ => false)
def chkO (Γ : Gm) (e : Option E) (x : Option Expr) : Bool := match e with
  | none => (match x with | none => true | _ => false)
  | some e => (match x with | some x => chkE Γ false .pk e x | _ => false)
def chkIf (Γ : Gm) (e : Option E) (x : List Expr) : Bool := match e with
  | none => (match x with | [] => true | _ => false)
  | some e => (match x with | [x] => chkE Γ true .pk e x | _ => false)
def chkSrc (Γ : Gm) (fz : Bool) (s : Src) (tx it : Expr) : Bool := match s with
  | .val e => chkE Γ false (lvS fz) e it
  | .rng es => (match it with
    | .Call (.Name y _) [a] [] _ => decide (y = ("range" : Str)) && glB Γ.sc y && notStar a && chkL Γ .pk es [a]
    | .Call (.Name y _) [a, b] [] _ => decide (y = ("range" : Str)) && glB Γ.sc y && notStar a && notStar b && chkL Γ .pk es [a, b]
    | _ => false)
  | .enum e => (match it with | .Call (.Name y _) [a] [] _ => decide (y = ("enumerate" : Str)) && isTupE tx && glB Γ.sc y && notStar a && chkE Γ false (lvS fz) e a | _ => false)
  | .zip e f => (match it with | .Call (.Name y _) [a, b] [] _ => decide (y = ("zip" : Str)) && isTupE tx && glB Γ.sc y && notStar a && notStar b && chkE Γ false (lvS fz) e a && chkE Γ false (lvS fz) f b | _ => false)
end
end MP

/-! MP: what the lookers pass reads as the evaluator says. -/
namespace MP
open PySem PySem.Spec PyProof.Rows L2
section
variable {C : Cn} {W : WX} {X : Cx} {lv lw : Lv} {a b c : Expr} {pos : Pos} {Γ : Gm} {fs : List FS}
theorem vis_of {sc : Scope} {x : Str} (h : visB sc x = true) : Vis sc x := by
  unfold visB at h
  split at h
  · exact .inl (by assumption)
  · exact .inr (.inl (by assumption))
  · exact .inr (.inr (by assumption))
  · cases h
theorem dbg_of {x : Str} (h : dbgOk x = true) : (x == ("__debug__" : Str)) = false ∧ (x == ("__classdict__" : Str)) = false := by
  simpa [dbgOk] using h
theorem Good.name (g : Good C W Γ fs X) {i : Nat} {x : Str} (h : nmB Γ i x = true) : PE X (.Name x pos) (tVar i) := by
  simp only [nmB, Bool.and_eq_true, decide_eq_true_eq] at h
  exact pe_var (by rw [g.hN]; exact h.1.1) (by rw [g.sc]; exact vis_of h.1.2) (dbg_of h.2).1 (dbg_of h.2).2
theorem Good.gl (g : Good C W Γ fs X) {x : Str} (h : glB Γ.sc x = true) : Gl X x := by
  simp only [glB, Bool.and_eq_true, decide_eq_true_eq] at h
  show X.env.scope.names.lookup x = _
  rw [g.sc]
  exact h.1
theorem gl_dbg {sc : Scope} {x : Str} (h : glB sc x = true) : (x == ("__debug__" : Str)) = false := by
  simp only [glB, Bool.and_eq_true] at h
  exact (dbg_of h.2).1
theorem Good.K (g : Good C W Γ fs X) : X.K = C.K := g.b.hK
theorem Good.u (g : Good C W Γ fs X) : X.A.units + 65 < cLine := g.b.units
theorem Good.no (g : Good C W Γ fs X) {x : Str} (h : x ∈ bltNames) : X.mg x = none := g.b.blt x h
theorem Good.nN (g : Good C W Γ fs X) : X.N.Nodup := by rw [g.hN]; exact g.nodup
theorem Good.gname (g : Good C W Γ fs X) {i : Nat} {x : Str} (h : stB Γ i x = true) : PG X (.Name x pos) (gName i) := by
  simp only [stB, Bool.and_eq_true, Bool.or_eq_true, decide_eq_true_eq] at h
  refine pg_name g.nN (by rw [g.hN]; exact h.1) ?_ ?_
  · rw [g.sc]
    rcases h.2 with h | h
    · exact .inl h
    · exact .inr h.1
  · rw [g.sc]
    rcases h.2 with h | h
    · exact .inr h
    · exact .inl (g.own _ h.2)
theorem Good.gnames (g : Good C W Γ fs X) : ∀ {is : List Nat} {es : List Expr}, tgsB Γ is es = true → PGs X es (gsOf is) ∧ es.length = is.length
  | [], [], _ => ⟨pgs_nil, rfl⟩
  | i :: is, .Name x _ :: es, h => by
    simp only [tgsB, Bool.and_eq_true] at h
    obtain ⟨h1, h2⟩ := g.gnames h.2
    exact ⟨pgs_cons (g.gname h.1) h1, by simp [h2]⟩
  | [], _ :: _, h => by simp [tgsB] at h
  | _ :: _, [], h => by simp [tgsB] at h
  | i :: is, e :: es, h => by
    unfold tgsB at h
    split at h
    · rename_i q _; cases q
    · rename_i q1 q2; cases q1; cases q2
      simp only [Bool.and_eq_true] at h
      obtain ⟨h1, h2⟩ := g.gnames h.2
      exact ⟨pgs_cons (g.gname h.1) h1, by simp [h2]⟩
    · cases h
theorem ae_names {env : Env} : ∀ {is : List Nat} {es : List Expr}, tgsB Γ is es = true → (assignEach es env).length = is.length ∧ (assignEach es env).findIdx? (·.1) = none
  | [], [], _ => ⟨rfl, rfl⟩
  | [], _ :: _, h => by simp [tgsB] at h
  | _ :: _, [], h => by simp [tgsB] at h
  | i :: is, e :: es, h => by
    unfold tgsB at h
    split at h
    · rename_i q _; cases q
    · rename_i q1 q2; cases q1; cases q2
      simp only [Bool.and_eq_true] at h
      obtain ⟨h1, h2⟩ := ae_names (env := env) h.2
      rename_i x p
      have e : assignEach (.Name x p :: es) env = (false, assign (.Name x p) env) :: assignEach es env := rfl
      rw [e]
      refine ⟨by simp [h1], ?_⟩
      rw [List.findIdx?_cons]
      simp [h2]
    · cases h
theorem Good.tg (g : Good C W Γ fs X) {tg : Tg} {e : Expr} (h : tgB Γ tg e = true) : PG X e (gOf C.K tg) := by
  unfold tgB at h
  split at h
  · exact g.gname h
  · obtain ⟨h1, h2⟩ := g.gnames h
    obtain ⟨h3, h4⟩ := ae_names (env := X.env) h
    have := pg_tup (k := ‹_›) (pos := ‹_›) g.calm h1 h3 h4
    rw [g.K] at this
    exact this
  · cases h
theorem tgIn_of {vs : List Nat} {tg : Tg} (h : tgInB vs tg = true) : tgIn vs tg := by
  cases tg with
  | one i =>
    have h : decide (i ∈ vs) = true := h
    exact (of_decide_eq_true h : i ∈ vs)
  | tup is => simpa [tgInB, tgIn] using h
theorem ow_map (Γ : Gm) : ∀ own : List Nat, (owOf Γ own).map (·.2) = own
  | [] => rfl
  | i :: is => by
    have := ow_map Γ is
    simp only [owOf, List.map_cons, List.cons.injEq, true_and] at this ⊢
    exact this
theorem Good.blk (g : Good C W Γ fs X) {scope : Scope} {ow : List (Str × Nat)} {s : Shared} {H : Hp} {A : Addr} {cl : List (Str × Addr)} {fp : List Addr} : Good C W0 (Γ.blk scope ow) fs (X.blk s H scope (compEnvC scope cl A X.env) fp) where
  b := ⟨g.b.hK, g.b.units, g.b.fns, g.b.blt, g.b.tk, g.b.prg⟩
  calm := g.calm
  nodup := g.nodup
  hN := g.hN
  sc := by show relS scope X.env.scope = _; rw [g.sc]; rfl
  own := fun x hx => by
    simp only [Gm.blk, List.mem_filter, decide_eq_true_eq] at hx
    show (scope.names.lookup x == some .cell) = true
    rw [hx.2]; rfl
  tk := takes0
/-! ### forms as argument lists -/
theorem PL.pa {es : List Expr} {ms : Env' → Sto → R (List D)} (x : PL C W X .rep es ms) : es.all notStar = true → PA X es (tA C W ms) := by
  induction x with
  | nil => exact fun _ => m_anil
  | cons p q ih => intro h; simp only [List.all_cons, Bool.and_eq_true] at h; exact m_acons (star_cons h.1) p (ih h.2)
theorem PL.pp {es : List Expr} {ms : Env' → Sto → R (List D)} (x : PL C W X .pk es ms) : es.all notStar = true → PA X es (tP C W ms) := by
  induction x with
  | nil => exact fun _ => m_pnil
  | cons p q ih => intro h; simp only [List.all_cons, Bool.and_eq_true] at h; exact m_pcons (star_cons h.1) p (ih h.2)
theorem R.bind_ok_inv {α β : Type} {r : R α} {f : α → Sto → R β} {b : β} {s' : Sto} (h : r.bind f = .ok b s') : ∃ a s, r = .ok a s ∧ f a s = .ok b s' := by
  cases r with
  | ok a s => exact ⟨a, s, rfl, h⟩
  | exc x s => cases h
  | stuck => cases h
theorem PL.len {es : List Expr} {ms : Env' → Sto → R (List D)} (x : PL C W X lv es ms) : ∀ ρ s ds s', ms ρ s = .ok ds s' → ds.length = es.length := by
  induction x with
  | nil => intro ρ s ds s' h; cases h; rfl
  | cons p q ih =>
    intro ρ s ds s' h
    obtain ⟨d, s1, h1, h2⟩ := R.bind_ok_inv h
    obtain ⟨ds1, s2, h3, h4⟩ := R.bind_ok_inv h2
    cases h4
    simp [ih _ _ _ _ h3]
theorem wkf {m : Env' → Sto → R D} (p : PE X a (tE C W .fr m)) : PE X a (tE C W lv m) := wk (by cases lv <;> rfl) p
abbrev Both (C : Cn) (W : WX) (X : Cx) (t : Bool) (lv : Lv) (ex : Expr) (m : Env' → Sto → R D) : Prop := (t = false → PE X ex (tE C W lv m)) ∧ (t = true → lv = .pk → PT X ex (tT C W (tst m)))
theorem Good.both (g : Good C W Γ fs X) {t : Bool} {m : Env' → Sto → R D} (hp : plainT a = true) (p : PE X a (tE C W lv m)) : Both C W X t lv a m :=
  ⟨fun _ => p, fun _ e => by subst e; exact m_test g.K p (it_of hp)⟩
theorem tst_and (ma mb : Env' → Sto → R D) (ρ : Env') (s : Sto) : tst (fun ρ s => (ma ρ s).bind fun x s => (R.of x.truth s).bind fun t s => if t then mb ρ s else .ok x s) ρ s = (tst ma ρ s).bind fun t s => if t then tst mb ρ s else .ok false s := by
  unfold tst
  dsimp only
  cases e : ma ρ s with
  | ok x s =>
    simp only [R.bind_ok]
    cases h : x.truth with
    | none => simp
    | some t => cases t <;> simp [h]
  | exc x s => rfl
  | stuck => rfl
theorem tst_or (ma mb : Env' → Sto → R D) (ρ : Env') (s : Sto) : tst (fun ρ s => (ma ρ s).bind fun x s => (R.of x.truth s).bind fun t s => if t then .ok x s else mb ρ s) ρ s = (tst ma ρ s).bind fun t s => if t then .ok true s else tst mb ρ s := by
  unfold tst
  dsimp only
  cases e : ma ρ s with
  | ok x s =>
    simp only [R.bind_ok]
    cases h : x.truth with
    | none => simp
    | some t => cases t <;> simp [h]
  | exc x s => rfl
  | stuck => rfl
theorem tst_not (ma : Env' → Sto → R D) (ρ : Env') (s : Sto) : tst (fun ρ s => (ma ρ s).bind fun x s => R.of (dNot x) s) ρ s = (tst ma ρ s).bind fun t s => .ok (!t) s := by
  unfold tst
  dsimp only
  cases e : ma ρ s with
  | ok x s =>
    simp only [R.bind_ok]
    cases h : x.truth with
    | none => simp [dNot, h]
    | some t => simp only [dNot, h, Option.map_some, R.of_some, R.bind_ok]; rfl
  | exc x s => rfl
  | stuck => rfl
theorem R.of_map {α β : Type} (o : Option α) (f : α → β) (s : Sto) : R.of (o.map f) s = (R.of o s).bind fun a s => .ok (f a) s := by cases o <;> rfl
theorem R.assoc {α β γ : Type} (r : R α) (f : α → Sto → R β) (g : β → Sto → R γ) : (r.bind f).bind g = r.bind fun a s => (f a s).bind g := by cases r <;> rfl
theorem tst_cmp (ma mb : Env' → Sto → R D) (f : D → D → Option Bool) (ρ : Env') (s : Sto) : tst (fun ρ s => (ma ρ s).bind fun x s => (mb ρ s).bind fun y s => R.of ((f x y).map .bl) s) ρ s = (ma ρ s).bind fun x s => (mb ρ s).bind fun y s => R.of (f x y) s := by
  unfold tst
  dsimp only
  cases ma ρ s with
  | ok x s =>
    simp only [R.bind_ok]
    cases mb ρ s with
    | ok y s =>
      simp only [R.bind_ok]
      cases f x y <;> rfl
    | exc y s => rfl
    | stuck => rfl
  | exc x s => rfl
  | stuck => rfl
theorem tst_chain (ma mb mc : Env' → Sto → R D) (f g : D → D → Option Bool) (ρ : Env') (s : Sto) : tst (fun ρ s => (ma ρ s).bind fun x s => (mb ρ s).bind fun y s => (R.of (f x y) s).bind fun t s => if t then (mc ρ s).bind fun z s => R.of ((g y z).map .bl) s else .ok (.bl false) s) ρ s = (ma ρ s).bind fun x s => (mb ρ s).bind fun y s => (R.of (f x y) s).bind fun t s => if t then (mc ρ s).bind fun z s => R.of (g y z) s else .ok false s := by
  unfold tst
  dsimp only
  cases ma ρ s with
  | ok x s =>
    simp only [R.bind_ok]
    cases mb ρ s with
    | ok y s =>
      simp only [R.bind_ok]
      cases f x y with
      | none => rfl
      | some t =>
        cases t with
        | false => rfl
        | true =>
          simp only [R.of_some, R.bind_ok, if_true]
          cases mc ρ s with
          | ok z s => simp only [R.bind_ok]; cases g y z <;> rfl
          | exc z s => rfl
          | stuck => rfl
    | exc y s => rfl
    | stuck => rfl
  | exc x s => rfl
  | stuck => rfl
theorem lastM {o p : CmpOp} {y z : Expr} (h : notSet z = true) : lastMarks [o, p] [y, z] = false := by
  show behindInMarks p z = false
  exact bm_of h
end
end MP

/-! MP: what the lookers pass reads as the evaluator says. -/
namespace MP
open PySem PySem.Spec PyProof.Rows L2
theorem lit_ok {C : Cn} {W : WX} {X : Cx} {d : D} {c : Const} {k : Nat} {p : Pos} (h : litOk d c = true) : PE X (.Constant c k p) (tE C W .fr fun _ s => .ok d s) := by
  unfold litOk at h
  split at h
  · exact m_const pe_non (fun _ _ => .non) rfl
  · have h := eq_of_beq h
    subst h
    exact m_const pe_bl (fun _ _ => .bl _) rfl
  · have h := of_decide_eq_true h
    subst h
    exact m_const pe_int (fun _ _ => .int _) rfl
  · simp only [Bool.and_eq_true, decide_eq_true_eq] at h
    obtain ⟨rfl, h⟩ := h
    exact m_const pe_str (fun _ _ => .str _ h) rfl
  · cases h
theorem ty_boot (t : Ty) : bootBuiltins (tyName t : Str) = some (.type (tyName t)) := by cases t <;> decide +kernel
theorem ty_in (t : Ty) : (tyName t : Str) ∈ bltNames := by cases t <;> decide +kernel
theorem ty_nn (t : Ty) : (tyName t : Str) ≠ "__name__" := by cases t <;> decide +kernel
theorem Good.ty {C : Cn} {W : WX} {X : Cx} {Γ : Gm} {fs : List FS} (g : Good C W Γ fs X) {t : Ty} {p : Pos} (h : glB Γ.sc (tyName t : Str) = true) : PE X (.Name (tyName t : Str) p) (tC (.ty (tyName t))) :=
  pe_tyN (g.gl h) (g.no (ty_in t)) (ty_boot t) (ty_nn t) (gl_dbg h)
theorem blt_in (b : Blt) : bltName b ∈ bltNames := by cases b <;> decide +kernel
theorem evEs_len {fn : Nat → FS} : ∀ {es : List E}, noStars es = true → ∀ ρ s ds s', evEs fn ρ es s = .ok ds s' → ds.length = es.length
  | [], _, ρ, s, ds, s', h => by cases h; rfl
  | e :: es, hn, ρ, s, ds, s', h => by
    have hs : noStars es = true ∧ evEs fn ρ (e :: es) s = (evE fn ρ e s).bind fun d s => (evEs fn ρ es s).bind fun ds s => .ok (d :: ds) s := by
      cases e <;> first | exact ⟨hn, rfl⟩ | cases hn
    rw [hs.2] at h
    obtain ⟨d, s1, h1, h2⟩ := R.bind_ok_inv h
    obtain ⟨ds1, s2, h3, h4⟩ := R.bind_ok_inv h2
    cases h4
    simp [evEs_len hs.1 _ _ _ _ h3]
section
variable {C : Cn} {W : WX} {X : Cx} {lv lw : Lv} {a b c : Expr} {pos : Pos} {ma mb mc : Env' → Sto → R D} {Γ : Gm} {fs : List FS}
theorem m_tisN {j : Nat} {p2 : Pos} (ha : PE X a (tE C W .pk ma)) : PT X (.Compare a [.Is] [.Constant .none j p2] pos) (tT C W fun ρ s => (ma ρ s).bind fun x s => .ok (isNb false x) s) := by
  refine PT.imp (pt_cmp (pc_isN ha) (bm_of rfl)) fun σ H Q ⟨F, L, S, ρ, k, en, q⟩ => ⟨F, L, S, ρ, k, en, q.bind.imp fun F1 L1 H1 S1 x e1 k1 q1 v1 r1 => ?_⟩
  show ∃ b, V.bl (decide (v1 = .non)) = .bl b ∧ Q b H1
  rw [Pk.nonI v1 x r1]
  exact ⟨_, rfl, q1.now k1⟩
theorem m_tnotN {j : Nat} {p2 : Pos} (ha : PE X a (tE C W .pk ma)) : PT X (.Compare a [.IsNot] [.Constant .none j p2] pos) (tT C W fun ρ s => (ma ρ s).bind fun x s => .ok (isNb true x) s) := by
  refine PT.imp (pt_cmp (pc_notN ha) (bm_of rfl)) fun σ H Q ⟨F, L, S, ρ, k, en, q⟩ => ⟨F, L, S, ρ, k, en, q.bind.imp fun F1 L1 H1 S1 x e1 k1 q1 v1 r1 => ?_⟩
  show ∃ b, V.bl (!decide (v1 = .non)) = .bl b ∧ Q b H1
  rw [Pk.nonI v1 x r1, isNb_not]
  exact ⟨_, rfl, q1.now k1⟩
theorem tst_is (ma : Env' → Sto → R D) (n : Bool) (ρ : Env') (s : Sto) : tst (fun ρ s => (ma ρ s).bind fun x s => .ok (.bl (isNb n x)) s) ρ s = (ma ρ s).bind fun x s => .ok (isNb n x) s := by
  unfold tst
  dsimp only
  cases ma ρ s <;> rfl
theorem pts_imp {e : List Expr} {t t' : TT} (h : PTs X e t) (f : ∀ σ H Q, t' σ H Q → t σ H Q) : PTs X e t' := ⟨fun pins s σ H Q I q => h.run pins s σ H Q I (f σ H Q q)⟩
theorem esc_ok {e : E} {es : List E} {xs : List Expr} (hc : chkEs Γ (e :: es) xs = (match xs with | x :: xs => notStar x && chkE Γ false .rep e x && chkEs Γ es xs | _ => false)) (hv : ∀ ρ : Env', (fun s => evEs (fnL fs) ρ (e :: es) s) = fun s => (evE (fnL fs) ρ e s).bind fun d s => (evEs (fnL fs) ρ es s).bind fun ds s => .ok (d :: ds) s)
    (h1 : ∀ x, chkE Γ false .rep e x = true → PE X x (tE C W .rep fun ρ s => evE (fnL fs) ρ e s)) (h2 : ∀ ys, chkEs Γ es ys = true → PA X ys (tA C W fun ρ s => evEs (fnL fs) ρ es s)) (h : chkEs Γ (e :: es) xs = true) : PA X xs (tA C W fun ρ s => evEs (fnL fs) ρ (e :: es) s) := by
  rw [hc] at h
  split at h
  · simp only [Bool.and_eq_true] at h
    have := m_acons (star_cons h.1.1) (h1 _ h.1.2) (h2 _ h.2)
    rw [show (fun ρ s => evEs (fnL fs) ρ (e :: es) s) = fun ρ s => (evE (fnL fs) ρ e s).bind fun d s => (evEs (fnL fs) ρ es s).bind fun ds s => .ok (d :: ds) s from funext hv]
    exact this
  · cases h
end
mutual
theorem chkE_ok {C : Cn} {fs : List FS} : ∀ (e : E) {W : WX} {X : Cx} {Γ : Gm} {t : Bool} {lv : Lv} {ex : Expr}, Good C W Γ fs X → chkE Γ t lv e ex = true → Both C W X t lv ex fun ρ s => evE (fnL fs) ρ e s
  | .lit d, W, X, Γ, t, lv, ex, g, h => by
    unfold chkE at h
    split at h
    · exact g.both rfl (wkf (lit_ok h))
    · cases h
  | .glob _ _, W, X, Γ, t, lv, ex, g, h => by unfold chkE at h; cases h
  | .star _, W, X, Γ, t, lv, ex, g, h => by unfold chkE at h; cases h
  | .var i, W, X, Γ, t, lv, ex, g, h => by
    unfold chkE at h
    simp only [Bool.and_eq_true] at h
    obtain ⟨h1, h⟩ := h
    split at h
    · exact g.both rfl (wk h1 (m_var (g.name h)))
    · cases h
  | .pk i, W, X, Γ, t, lv, ex, g, h => by
    unfold chkE at h
    simp only [Bool.and_eq_true] at h
    obtain ⟨h1, h⟩ := h
    split at h
    · exact g.both rfl (wk h1 (m_pk (g.name h)))
    · cases h
  | .tup es, W, X, Γ, t, lv, ex, g, h => by
    unfold chkE at h
    split at h
    · exact g.both rfl (wkf (m_tup (chkEs_ok es g h)))
    · cases h
  | .lst es, W, X, Γ, t, lv, ex, g, h => by
    unfold chkE at h
    split at h
    · exact g.both rfl (wkf (m_lst (chkEs_ok es g h)))
    · cases h
  | .bin o a b, W, X, Γ, t, lv, ex, g, h => by
    unfold chkE at h
    split at h
    · simp only [Bool.and_eq_true, decide_eq_true_eq] at h
      obtain ⟨⟨rfl, h1⟩, h2⟩ := h
      obtain ⟨r, ho, hf⟩ := bin_ok (X := X) (C := C) o g.K
      exact g.both rfl (wkf (m_op ho hf ((chkE_ok a g h1).1 rfl) ((chkE_ok b g h2).1 rfl)))
    · cases h
  | .neg a, W, X, Γ, t, lv, ex, g, h => by
    unfold chkE at h
    split at h
    · exact g.both rfl (wkf (m_neg ((chkE_ok a g h).1 rfl)))
    · cases h
  | .cmp o a b, W, X, Γ, t, lv, ex, g, h => by
    unfold chkE at h
    split at h
    · simp only [Bool.and_eq_true, decide_eq_true_eq] at h
      obtain ⟨⟨⟨rfl, h0⟩, h1⟩, h2⟩ := h
      obtain ⟨r, ho, hf⟩ := cmp_ok (X := X) (C := C) o g.K g.u
      refine ⟨fun _ => wkf (m_cmpR ho (bm_of h0) hf ((chkE_ok a g h1).1 rfl) ((chkE_ok b g h2).1 rfl)), fun _ e => ?_⟩
      exact pt_cong (m_tcmp ho (bm_of h0) hf ((chkE_ok a g h1).1 rfl) ((chkE_ok b g h2).1 rfl)) fun ρ s => tst_cmp _ _ _ ρ s
    · cases h
  | .isN n a, W, X, Γ, t, lv, ex, g, h => by
    unfold chkE at h
    split at h
    · simp only [Bool.and_eq_true, decide_eq_true_eq] at h
      obtain ⟨rfl, h1⟩ := h
      have ha := (chkE_ok a g h1).1 rfl
      cases n with
      | false => exact ⟨fun _ => wkf (m_isN ha), fun _ _ => pt_cong (m_tisN ha) fun ρ s => tst_is _ _ ρ s⟩
      | true => exact ⟨fun _ => wkf (m_notN ha), fun _ _ => pt_cong (m_tnotN ha) fun ρ s => tst_is _ _ ρ s⟩
    · cases h
  | .chain o p a b c, W, X, Γ, t, lv, ex, g, h => by
    unfold chkE at h
    split at h
    · simp only [Bool.and_eq_true, decide_eq_true_eq] at h
      obtain ⟨⟨⟨⟨⟨rfl, rfl⟩, h0⟩, h1⟩, h2⟩, h3⟩ := h
      obtain ⟨r, ho, hf⟩ := cmp_ok (X := X) (C := C) o g.K g.u
      obtain ⟨r', ho', hf'⟩ := cmp_ok (X := X) (C := C) p g.K g.u
      refine ⟨fun _ => wkf (m_chain ho hf ho' hf' (lastM h0) ((chkE_ok a g h1).1 rfl) ((chkE_ok b g h2).1 rfl) ((chkE_ok c g h3).1 rfl)), fun _ e => ?_⟩
      exact pt_cong (m_tchain ho hf ho' hf' (lastM h0) ((chkE_ok a g h1).1 rfl) ((chkE_ok b g h2).1 rfl) ((chkE_ok c g h3).1 rfl)) fun ρ s => tst_chain _ _ _ _ _ ρ s
    · cases h
  | .and a b, W, X, Γ, t, lv, ex, g, h => by
    unfold chkE at h
    split at h
    · simp only [Bool.and_eq_true] at h
      have ha := chkE_ok a g h.1
      have hb := chkE_ok b g h.2
      refine ⟨fun e => m_and g.K (ha.1 e) (pe_bool1 (hb.1 e)), fun e e2 => ?_⟩
      exact pt_cong (m_tand (ha.2 e e2) (PW.pt (pw_and1 (hb.2 e e2)))) fun ρ s => tst_and _ _ ρ s
    · simp only [Bool.and_eq_true] at h
      have ha := chkE_ok a g h.1
      have hb := chkE_ok b g h.2
      refine ⟨fun e => m_and g.K (ha.1 e) (hb.1 e), fun e e2 => ?_⟩
      exact pt_cong (m_tand (ha.2 e e2) (hb.2 e e2)) fun ρ s => tst_and _ _ ρ s
    · cases h
  | .or a b, W, X, Γ, t, lv, ex, g, h => by
    unfold chkE at h
    split at h
    · simp only [Bool.and_eq_true] at h
      have ha := chkE_ok a g h.1
      have hb := chkE_ok b g h.2
      refine ⟨fun e => m_or g.K (ha.1 e) (pe_bool1 (hb.1 e)), fun e e2 => ?_⟩
      exact pt_cong (m_tor (ha.2 e e2) (PW.pt (pw_or1 (hb.2 e e2)))) fun ρ s => tst_or _ _ ρ s
    · simp only [Bool.and_eq_true] at h
      have ha := chkE_ok a g h.1
      have hb := chkE_ok b g h.2
      refine ⟨fun e => m_or g.K (ha.1 e) (hb.1 e), fun e e2 => ?_⟩
      exact pt_cong (m_tor (ha.2 e e2) (hb.2 e e2)) fun ρ s => tst_or _ _ ρ s
    · cases h
  | .not a, W, X, Γ, t, lv, ex, g, h => by
    unfold chkE at h
    split at h
    · have ha := chkE_ok a g h
      refine ⟨fun e => wkf (m_not g.K (ha.1 e)), fun e e2 => ?_⟩
      exact pt_cong (m_tnot (ha.2 e rfl)) fun ρ s => tst_not _ ρ s
    · cases h
  | .ite c a b, W, X, Γ, t, lv, ex, g, h => by
    unfold chkE at h
    simp only [Bool.and_eq_true, Bool.not_eq_true'] at h
    obtain ⟨ht, h⟩ := h
    split at h
    · simp only [Bool.and_eq_true] at h
      refine ⟨fun _ => pe_cong (m_ite ((chkE_ok c g h.1.1).2 rfl rfl) ((chkE_ok a g h.1.2).1 rfl) ((chkE_ok b g h.2).1 rfl)) fun ρ s => ?_, fun e => by rw [ht] at e; cases e⟩
      show _ = ((evE (fnL fs) ρ c s).bind fun x s => R.of x.truth s).bind _
      rw [R.assoc]
      rfl
    · cases h
  | .idx a i, W, X, Γ, t, lv, ex, g, h => by
    unfold chkE at h
    simp only [Bool.and_eq_true] at h
    obtain ⟨hl, h⟩ := h
    split at h
    · simp only [Bool.and_eq_true] at h
      have := g.u
      exact g.both rfl (wk hl (m_didx g.K (by have := g.u; omega) (plainIx h.1.1) (noSl h.1.1) ((chkE_ok a g h.1.2).1 rfl) ((chkE_ok i g h.2).1 rfl)))
    · cases h
  | .slice a lo hi, W, X, Γ, t, lv, ex, g, h => by
    unfold chkE at h
    split at h
    · simp only [Bool.and_eq_true] at h
      exact g.both rfl (wkf (m_slice g.K ((chkE_ok a g h.1.1).1 rfl) (chkO_ok lo g h.1.2) (chkO_ok hi g h.2)))
    · cases h
  | .fld f a, W, X, Γ, t, lv, ex, g, h => by
    unfold chkE at h
    simp only [Bool.and_eq_true] at h
    obtain ⟨hl, h⟩ := h
    split at h
    · simp only [Bool.and_eq_true, decide_eq_true_eq] at h
      obtain ⟨⟨rfl, h1⟩, h2⟩ := h
      exact g.both rfl (wk hl (m_fld g.K g.b.prg (ab_of h1) ((chkE_ok a g h2).1 rfl)))
    · cases h
  | .call k es, W, X, Γ, t, lv, ex, g, h => by
    unfold chkE at h
    split at h
    · rename_i x n fr hk
      simp only [Bool.and_eq_true] at h
      obtain ⟨hl, h⟩ := h
      split at h
      · simp only [Bool.and_eq_true, decide_eq_true_eq] at h
        obtain ⟨⟨⟨⟨⟨⟨rfl, h1⟩, h2⟩, h3⟩, h4⟩, h5⟩, h6⟩ := h
        have hf : FnAt C X _ n fr (fnL fs k) := FnB.at (g.b.fns.at hk)
        have hp := (chkL_ok es g h6).pa h5
        simp only [List.all_cons, Bool.and_eq_true] at h5
        exact g.both rfl (wk hl (m_call g.tk hf (g.gl h1) (gl_dbg h1) (by simpa using h3) (star_cons h5.1) (star_none h5.2) (fun ρ s ds s' e => by rw [evEs_len h4 _ _ _ _ e]; exact h2) hp))
      · cases h
    · rename_i hh hk
      simp only [Bool.and_eq_true, Bool.or_eq_true, Bool.not_eq_true'] at h
      obtain ⟨⟨hl, ht⟩, h⟩ := h
      split at h
      · rename_i xs hm
        have hf : HookOk C (Cx.bs X) hh (fnL fs k) := g.b.fns.at hk
        have p := wk hl (hf.ex X W ex xs _ rfl g.K g.calm g.u g.tk (by rw [g.sc]; exact hm) (chkL_ok es g h))
        refine ⟨fun _ => p, fun e e2 => ?_⟩
        rcases ht with ht | ht
        · rw [ht] at e; cases e
        · exact (g.both (t := true) ht p).2 rfl e2
      · cases h
    · cases h
  | .blt b es, W, X, Γ, t, lv, ex, g, h => by
    unfold chkE at h
    split at h
    · simp only [Bool.and_eq_true, decide_eq_true_eq] at h
      obtain ⟨⟨⟨rfl, h1⟩, h2⟩, h3⟩ := h
      have hp := (chkL_ok es g h3).pp h2
      simp only [List.all_cons, Bool.and_eq_true] at h2
      exact g.both rfl (wkf (m_blt b g.K g.calm (g.gl h1) (g.no (blt_in b)) (star_cons h2.1) (star_none h2.2) hp))
    · cases h
  | .isi ts a, W, X, Γ, t, lv, ex, g, h => by
    unfold chkE at h
    split at h
    · simp only [Bool.and_eq_true, decide_eq_true_eq] at h
      obtain ⟨⟨⟨⟨⟨rfl, h1⟩, rfl⟩, h2⟩, h3⟩, h4⟩ := h
      exact g.both rfl (wkf (m_isi1 (p2 := default) g.K (g.gl h1) (g.no (by decide +kernel)) (g.ty h2) (star_two h3 rfl) (star_one rfl) ((chkE_ok a g h4).1 rfl)))
    · simp only [Bool.and_eq_true, decide_eq_true_eq] at h
      obtain ⟨⟨⟨⟨⟨⟨⟨rfl, h1⟩, rfl⟩, h2⟩, rfl⟩, h3⟩, h4⟩, h5⟩ := h
      exact g.both rfl (wkf (m_isi2 g.K (g.gl h1) (g.no (by decide +kernel)) (g.ty h2) (g.ty h3) (star_two h4 rfl) (star_cons rfl) (star_one rfl) ((chkE_ok a g h5).1 rfl)))
    · cases h
  | .join a e, W, X, Γ, t, lv, ex, g, h => by
    unfold chkE at h
    split at h
    · simp only [Bool.and_eq_true, decide_eq_true_eq] at h
      obtain ⟨⟨⟨⟨⟨rfl, h1⟩, h2⟩, h3⟩, h4⟩, h5⟩ := h
      exact g.both rfl (wkf (m_join (p := default) g.K (ab_of h1) (by simpa using h2) (star_one h3) ((chkE_ok a g h4).1 rfl) ((chkE_ok e g h5).1 rfl)))
    · cases h
  | .comp own tg src ifs elt, W, X, Γ, t, lv, ex, g, h => by
    unfold chkE at h
    split at h
    · simp only [Bool.and_eq_true] at h
      obtain ⟨⟨⟨⟨⟨⟨h1, h2⟩, h3⟩, h4⟩, h5⟩, h6⟩, h7⟩ := h
      have hb := blkOk_by h1
      have := m_comp (W := W) (pos := ‹_›) (C := C) g.K g.calm g.nN (chkSrc_ok src g h5) (by rw [g.hN, g.sc]; exact hb) (by rw [ow_map]; exact tgIn_of h2) (fun s H A cl fp => g.blk.tg h3) (fun s H A cl fp => chkIf_ok ifs g.blk h6) (fun s H A cl fp => (chkE_ok elt g.blk h7).1 rfl) (fs_of h4)
      rw [ow_map] at this
      exact g.both rfl (wkf this)
    · cases h
  | .dcomp own tg src key val, W, X, Γ, t, lv, ex, g, h => by
    unfold chkE at h
    split at h
    · simp only [Bool.and_eq_true] at h
      obtain ⟨⟨⟨⟨⟨⟨h1, h2⟩, h3⟩, h4⟩, h5⟩, h6⟩, h7⟩ := h
      have hb := blkOk_by h1
      have := m_dcomp (W := W) (pos := ‹_›) (C := C) g.K g.calm g.nN (chkSrc_ok src g h5) (by rw [g.hN, g.sc]; exact hb) (by rw [ow_map]; exact tgIn_of h2) (fun s H A cl fp => g.blk.tg h3) (fun s H A cl fp => (chkE_ok key g.blk h6).1 rfl) (fun s H A cl fp => (chkE_ok val g.blk h7).1 rfl) (fs_of h4)
      rw [ow_map] at this
      exact g.both rfl (wkf this)
    · cases h
  | .dic0, W, X, Γ, t, lv, ex, g, h => by
    unfold chkE at h
    split at h
    · exact g.both rfl (wkf m_dic0)
    · cases h
  | .cidx x ys a, W, X, Γ, t, lv, ex, g, h => by
    unfold chkE at h
    split at h
    · simp only [Bool.and_eq_true, decide_eq_true_eq] at h
      obtain ⟨⟨⟨⟨⟨h1, rfl⟩, h2⟩, h3⟩, h4⟩, h5⟩ := h
      exact g.both rfl (wkf (m_cidx g.K (g.b.tk _ h1) (g.gl h2) (gl_dbg h2) (by simpa using h3) (star_one h4) (ab_of rfl) ((chkE_ok a g h5).1 rfl)))
    · cases h
  | .cell a, W, X, Γ, t, lv, ex, g, h => by
    unfold chkE at h
    simp only [Bool.and_eq_true, Bool.not_eq_true'] at h
    obtain ⟨⟨h1, h2⟩, h3⟩ := h
    exact ⟨fun _ => wk h1 (m_cell ((chkE_ok a g h3).1 rfl)), fun e => by rw [h2] at e; cases e⟩
  | .cget a i, W, X, Γ, t, lv, ex, g, h => by
    unfold chkE at h
    simp only [Bool.and_eq_true] at h
    obtain ⟨hl, h⟩ := h
    split at h
    · simp only [Bool.and_eq_true] at h
      exact g.both rfl (wk hl (m_cget g.K (plainIx h.1.1) ((chkE_ok a g h.1.2).1 rfl) ((chkE_ok i g h.2).1 rfl)))
    · cases h
  | .clen a, W, X, Γ, t, lv, ex, g, h => by
    unfold chkE at h
    split at h
    · simp only [Bool.and_eq_true, decide_eq_true_eq] at h
      obtain ⟨⟨⟨rfl, h1⟩, h2⟩, h3⟩ := h
      exact g.both rfl (wkf (m_clen g.K (g.gl h1) (g.no (by decide +kernel)) (star_one h2) ((chkE_ok a g h3).1 rfl)))
    · cases h
  | .ccat a b, W, X, Γ, t, lv, ex, g, h => by
    unfold chkE at h
    split at h
    · simp only [Bool.and_eq_true] at h
      exact g.both rfl (wkf (m_ccat ((chkE_ok a g h.1).1 rfl) ((chkE_ok b g h.2).1 rfl)))
    · cases h
theorem chkEs_ok {C : Cn} {fs : List FS} : ∀ (es : List E) {W : WX} {X : Cx} {Γ : Gm} {xs : List Expr}, Good C W Γ fs X → chkEs Γ es xs = true → PA X xs (tA C W fun ρ s => evEs (fnL fs) ρ es s)
  | [], W, X, Γ, xs, g, h => by
    unfold chkEs at h
    split at h
    · exact m_anil
    · cases h
  | .star a :: es, W, X, Γ, xs, g, h => by
    unfold chkEs at h
    split at h
    · simp only [Bool.and_eq_true] at h
      exact m_astar g.K ((chkE_ok a g h.1).1 rfl) (chkEs_ok es g h.2)
    · cases h
  | .lit d :: es, W, X, Γ, xs, g, h => esc_ok rfl (fun _ => rfl) (fun xx hx => (chkE_ok (.lit d) g hx).1 rfl) (fun ys hy => chkEs_ok es g hy) h
  | .var i :: es, W, X, Γ, xs, g, h => esc_ok rfl (fun _ => rfl) (fun xx hx => (chkE_ok (.var i) g hx).1 rfl) (fun ys hy => chkEs_ok es g hy) h
  | .pk i :: es, W, X, Γ, xs, g, h => esc_ok rfl (fun _ => rfl) (fun xx hx => (chkE_ok (.pk i) g hx).1 rfl) (fun ys hy => chkEs_ok es g hy) h
  | .glob x d :: es, W, X, Γ, xs, g, h => esc_ok rfl (fun _ => rfl) (fun xx hx => (chkE_ok (.glob x d) g hx).1 rfl) (fun ys hy => chkEs_ok es g hy) h
  | .tup l :: es, W, X, Γ, xs, g, h => esc_ok rfl (fun _ => rfl) (fun xx hx => (chkE_ok (.tup l) g hx).1 rfl) (fun ys hy => chkEs_ok es g hy) h
  | .lst l :: es, W, X, Γ, xs, g, h => esc_ok rfl (fun _ => rfl) (fun xx hx => (chkE_ok (.lst l) g hx).1 rfl) (fun ys hy => chkEs_ok es g hy) h
  | .bin o a b :: es, W, X, Γ, xs, g, h => esc_ok rfl (fun _ => rfl) (fun xx hx => (chkE_ok (.bin o a b) g hx).1 rfl) (fun ys hy => chkEs_ok es g hy) h
  | .neg a :: es, W, X, Γ, xs, g, h => esc_ok rfl (fun _ => rfl) (fun xx hx => (chkE_ok (.neg a) g hx).1 rfl) (fun ys hy => chkEs_ok es g hy) h
  | .cmp o a b :: es, W, X, Γ, xs, g, h => esc_ok rfl (fun _ => rfl) (fun xx hx => (chkE_ok (.cmp o a b) g hx).1 rfl) (fun ys hy => chkEs_ok es g hy) h
  | .isN n a :: es, W, X, Γ, xs, g, h => esc_ok rfl (fun _ => rfl) (fun xx hx => (chkE_ok (.isN n a) g hx).1 rfl) (fun ys hy => chkEs_ok es g hy) h
  | .chain o p a b c :: es, W, X, Γ, xs, g, h => esc_ok rfl (fun _ => rfl) (fun xx hx => (chkE_ok (.chain o p a b c) g hx).1 rfl) (fun ys hy => chkEs_ok es g hy) h
  | .and a b :: es, W, X, Γ, xs, g, h => esc_ok rfl (fun _ => rfl) (fun xx hx => (chkE_ok (.and a b) g hx).1 rfl) (fun ys hy => chkEs_ok es g hy) h
  | .or a b :: es, W, X, Γ, xs, g, h => esc_ok rfl (fun _ => rfl) (fun xx hx => (chkE_ok (.or a b) g hx).1 rfl) (fun ys hy => chkEs_ok es g hy) h
  | .not a :: es, W, X, Γ, xs, g, h => esc_ok rfl (fun _ => rfl) (fun xx hx => (chkE_ok (.not a) g hx).1 rfl) (fun ys hy => chkEs_ok es g hy) h
  | .ite c a b :: es, W, X, Γ, xs, g, h => esc_ok rfl (fun _ => rfl) (fun xx hx => (chkE_ok (.ite c a b) g hx).1 rfl) (fun ys hy => chkEs_ok es g hy) h
  | .idx a i :: es, W, X, Γ, xs, g, h => esc_ok rfl (fun _ => rfl) (fun xx hx => (chkE_ok (.idx a i) g hx).1 rfl) (fun ys hy => chkEs_ok es g hy) h
  | .slice a lo hi :: es, W, X, Γ, xs, g, h => esc_ok rfl (fun _ => rfl) (fun xx hx => (chkE_ok (.slice a lo hi) g hx).1 rfl) (fun ys hy => chkEs_ok es g hy) h
  | .fld f a :: es, W, X, Γ, xs, g, h => esc_ok rfl (fun _ => rfl) (fun xx hx => (chkE_ok (.fld f a) g hx).1 rfl) (fun ys hy => chkEs_ok es g hy) h
  | .call f l :: es, W, X, Γ, xs, g, h => esc_ok rfl (fun _ => rfl) (fun xx hx => (chkE_ok (.call f l) g hx).1 rfl) (fun ys hy => chkEs_ok es g hy) h
  | .blt b l :: es, W, X, Γ, xs, g, h => esc_ok rfl (fun _ => rfl) (fun xx hx => (chkE_ok (.blt b l) g hx).1 rfl) (fun ys hy => chkEs_ok es g hy) h
  | .isi ts a :: es, W, X, Γ, xs, g, h => esc_ok rfl (fun _ => rfl) (fun xx hx => (chkE_ok (.isi ts a) g hx).1 rfl) (fun ys hy => chkEs_ok es g hy) h
  | .join a e :: es, W, X, Γ, xs, g, h => esc_ok rfl (fun _ => rfl) (fun xx hx => (chkE_ok (.join a e) g hx).1 rfl) (fun ys hy => chkEs_ok es g hy) h
  | .comp own tg src ifs elt :: es, W, X, Γ, xs, g, h => esc_ok rfl (fun _ => rfl) (fun xx hx => (chkE_ok (.comp own tg src ifs elt) g hx).1 rfl) (fun ys hy => chkEs_ok es g hy) h
  | .dcomp own tg src key val :: es, W, X, Γ, xs, g, h => esc_ok rfl (fun _ => rfl) (fun xx hx => (chkE_ok (.dcomp own tg src key val) g hx).1 rfl) (fun ys hy => chkEs_ok es g hy) h
  | .dic0 :: es, W, X, Γ, xs, g, h => esc_ok rfl (fun _ => rfl) (fun xx hx => (chkE_ok (.dic0) g hx).1 rfl) (fun ys hy => chkEs_ok es g hy) h
  | .cidx x ys a :: es, W, X, Γ, xs, g, h => esc_ok rfl (fun _ => rfl) (fun xx hx => (chkE_ok (.cidx x ys a) g hx).1 rfl) (fun ys hy => chkEs_ok es g hy) h
  | .cget a i :: es, W, X, Γ, xs, g, h => esc_ok rfl (fun _ => rfl) (fun xx hx => (chkE_ok (.cget a i) g hx).1 rfl) (fun ys hy => chkEs_ok es g hy) h
  | .clen a :: es, W, X, Γ, xs, g, h => esc_ok rfl (fun _ => rfl) (fun xx hx => (chkE_ok (.clen a) g hx).1 rfl) (fun ys hy => chkEs_ok es g hy) h
  | .ccat a b :: es, W, X, Γ, xs, g, h => esc_ok rfl (fun _ => rfl) (fun xx hx => (chkE_ok (.ccat a b) g hx).1 rfl) (fun ys hy => chkEs_ok es g hy) h
  | .cell a :: es, W, X, Γ, xs, g, h => esc_ok rfl (fun _ => rfl) (fun xx hx => (chkE_ok (.cell a) g hx).1 rfl) (fun ys hy => chkEs_ok es g hy) h
theorem chkL_ok {C : Cn} {fs : List FS} : ∀ (es : List E) {W : WX} {X : Cx} {Γ : Gm} {lv : Lv} {xs : List Expr}, Good C W Γ fs X → chkL Γ lv es xs = true → PL C W X lv xs fun ρ s => evEs (fnL fs) ρ es s
  | [], W, X, Γ, lv, xs, g, h => by
    unfold chkL at h
    split at h
    · exact .nil
    · cases h
  | e :: es, W, X, Γ, lv, xs, g, h => by
    unfold chkL at h
    split at h
    · simp only [Bool.and_eq_true] at h
      have ha := (chkE_ok e g h.1).1 rfl
      have hs := chkL_ok es g h.2
      have : (fun ρ s => evEs (fnL fs) ρ (e :: es) s) = fun ρ s => (evE (fnL fs) ρ e s).bind fun d s => (evEs (fnL fs) ρ es s).bind fun ds s => .ok (d :: ds) s := by
        funext ρ s
        cases e <;> first | rfl | (have := h.1; unfold chkE at this; cases this)
      rw [this]
      exact .cons ha hs
    · cases h
theorem chkO_ok {C : Cn} {fs : List FS} : ∀ (e : Option E) {W : WX} {X : Cx} {Γ : Gm} {x : Option Expr}, Good C W Γ fs X → chkO Γ e x = true → PO X x (tO C W fun ρ s => evO (fnL fs) ρ e s)
  | none, W, X, Γ, x, g, h => by
    unfold chkO at h
    split at h
    · exact m_onone
    · cases h
  | some e, W, X, Γ, x, g, h => by
    unfold chkO at h
    split at h
    · exact m_osome ((chkE_ok e g h).1 rfl)
    · cases h
theorem chkIf_ok {C : Cn} {fs : List FS} : ∀ (e : Option E) {W : WX} {X : Cx} {Γ : Gm} {x : List Expr}, Good C W Γ fs X → chkIf Γ e x = true → PTs X x (tT C W fun ρ s => evIf (fnL fs) ρ e s)
  | none, W, X, Γ, x, g, h => by
    unfold chkIf at h
    split at h
    · exact pts_imp pts_nil fun σ H Q ⟨F, L, S, ρ, k, en, q⟩ => q.now k
    · cases h
  | some e, W, X, Γ, x, g, h => by
    unfold chkIf at h
    split at h
    · exact pts_one ((chkE_ok e g h).2 rfl rfl)
    · cases h
theorem chkSrc_ok {C : Cn} {fs : List FS} : ∀ (e : Src) {W : WX} {X : Cx} {Γ : Gm} {fz : Bool} {tx it : Expr}, Good C W Γ fs X → chkSrc Γ fz e tx it = true → PI X tx it (tI C W fz fun ρ s => evSrc (fnL fs) ρ e s)
  | .val e, W, X, Γ, fz, tx, it, g, h => by
    unfold chkSrc at h
    exact m_sval g.K ((chkE_ok e g h).1 rfl)
  | .rng es, W, X, Γ, fz, tx, it, g, h => by
    unfold chkSrc at h
    split at h
    · simp only [Bool.and_eq_true, decide_eq_true_eq] at h
      obtain ⟨⟨⟨rfl, h1⟩, h2⟩, h3⟩ := h
      have hl := chkL_ok es g h3
      exact m_srng1 (g.gl h1) (g.no (by decide +kernel)) (star_one h2) (hl.pp (by simp [h2])) (fun ρ s ds s' e => hl.len _ _ _ _ e)
    · simp only [Bool.and_eq_true, decide_eq_true_eq] at h
      obtain ⟨⟨⟨⟨rfl, h1⟩, h2⟩, h4⟩, h3⟩ := h
      have hl := chkL_ok es g h3
      exact m_srng2 (g.gl h1) (g.no (by decide +kernel)) (star_two h2 h4) (star_one h4) (hl.pp (by simp [h2, h4])) (fun ρ s ds s' e => hl.len _ _ _ _ e)
    · cases h
  | .enum e, W, X, Γ, fz, tx, it, g, h => by
    unfold chkSrc at h
    split at h
    · simp only [Bool.and_eq_true, decide_eq_true_eq] at h
      obtain ⟨⟨⟨⟨rfl, h0⟩, h1⟩, h2⟩, h3⟩ := h
      unfold isTupE at h0
      split at h0
      · exact m_senum g.K (g.gl h1) (g.no (by decide +kernel)) (star_one h2) ((chkE_ok e g h3).1 rfl)
      · cases h0
    · cases h
  | .zip e f, W, X, Γ, fz, tx, it, g, h => by
    unfold chkSrc at h
    split at h
    · simp only [Bool.and_eq_true, decide_eq_true_eq] at h
      obtain ⟨⟨⟨⟨⟨⟨rfl, h0⟩, h1⟩, h2⟩, h4⟩, h3⟩, h5⟩ := h
      unfold isTupE at h0
      split at h0
      · exact m_szip g.K (g.gl h1) (g.no (by decide +kernel)) (star_cons h2) (star_one h4) ((chkE_ok e g h3).1 rfl) ((chkE_ok f g h5).1 rfl)
      · cases h0
    · cases h
end
end MP

/-! MP: statements looked at. -/
namespace MP
open PySem PySem.Spec PyProof.Rows L2
section
variable {C : Cn} {F0 : Hp} {L0 : List Addr} {H0 : Hp} {W : WX} {X : Cx} {lv lw : Lv} {a b c : Expr} {pos : Pos} {ma mb mc : Env' → Sto → R D} {Γ : Gm} {fs : List FS} {ms : Env' → Sto → R (List D)} {os : List Bool}
theorem tL.sh {σ : Sg} {H : Hp} {Q Q' : List V → Hp → Prop} (h : tL C W os ms σ H Q) (f : ∀ vs H', vs.length = os.length → Q vs H' → Q' vs H') : tL C W os ms σ H Q' := by
  obtain ⟨F, L, S, ρ, k, en, q⟩ := h
  exact ⟨F, L, S, ρ, k, en, q.imp fun F' L' H' S' ds e k' p vs r => f _ _ r.length.2 (p vs r)⟩
/-! ### several names at once -/
def nmsOf : List Expr → Option (List Str)
  | [] => some []
  | .Name x _ :: es => (nmsOf es).map (x :: ·)
  | _ => none
def swLine (ts : List Expr) : Nat := (ts.head?.map (·.pos.line)).getD 0
def swNames (sc : Scope) (ts : List Expr) : List Str := ts.filterMap fun
    | .Name id pos => if sc.names.lookup id == some .local && pos.line == swLine ts then some id else none
    | _ => none
def starE : Expr → Bool | .Starred _ _ => true | _ => false
theorem starE_fun : (fun e : Expr => match e with | .Starred _ _ => true | _ => false) = starE := by funext e; cases e <;> rfl
/-- what the stores' order is -/
def swap (sc : Scope) (ts vs : List Expr) : Option (Option (List Str)) :=
  if !(ts.length == 2 || ts.length == 3) || vs.length != ts.length then some none else
  if vs.any starE then some none else
  if (swNames sc ts).length != ts.length || (swNames sc ts).eraseDups.length != (swNames sc ts).length then some none else
  if vs.all (foldedForSure 8) then some none else
  if vs.all (constantsAlone 8) then none else some (some (swNames sc ts))
theorem swap_ok {env : Env} {ts vs : List Expr} {k k2 : Nat} {p p2 : Pos} {r : Option (List Str)} (hk : env.scope.kind = .function) (h : swap env.scope ts vs = some r) : swappedStores [.Tuple ts k p] (.Tuple vs k2 p2) env = pure r := by
  have hb : env.blockKind = .function := by unfold Env.blockKind; rw [hk]; rfl
  unfold swappedStores
  simp only [hb, bne_self_eq_false, Bool.or_false, Bool.false_or]
  unfold swap at h
  split at h
  · rename_i h1; cases h; simp only [h1, if_true]
  · rename_i h1
    have h1 := Bool.eq_false_iff.mpr h1
    simp only [h1, Bool.false_eq_true, if_false]
    split at h
    · rename_i h2; cases h; exact if_pos h2
    · rename_i h2
      refine (if_neg h2).trans ?_
      split at h
      · rename_i h3; cases h; exact if_pos h3
      · rename_i h3
        refine (if_neg h3).trans ?_
        split at h
        · rename_i h4; cases h; exact if_pos h4
        · rename_i h4
          refine (if_neg h4).trans ?_
          split at h
          · cases h
          · rename_i h5; cases h; exact if_neg h5
theorem pa_imp' {es : List Expr} {t t' : TA} (h : PA X es t) (f : ∀ σ H Q, t' σ H Q → t σ H Q) : PA X es t' := PA.imp h f
theorem gsOf_set : ∀ {is : List (Bool × Nat)} {vs : List V} {σ : Sg} {H : Hp} {Q : Sg → Hp → Prop}, vs.length = is.length → Q (setVals is vs σ) H → gsOf (is.map (·.2)) vs σ H Q
  | [], [], σ, H, Q, _, q => ⟨rfl, q⟩
  | (o, i) :: is, v :: vs, σ, H, Q, h, q => ⟨_, _, rfl, gsOf_set (is := is) (by simpa using h) q⟩
  | [], _ :: _, _, _, _, h, _ => by simp at h
  | _ :: _, [], _, _, _, h, _ => by simp at h
theorem p_tup {is : List (Bool × Nat)} {vs : List Expr} {k k2 : Nat} {p p2 : Pos} {ts : List Expr} (g : Good C W Γ fs X) (hf : Γ.sc.kind = .function) (hs : swap Γ.sc ts vs = some none) (hl : is.length ≤ 8) (ht : tgsB Γ (is.map (·.2)) ts = true) (hv : PA X vs (tL C W (is.map (·.1)) ms)) :
    PS X (.Assign [.Tuple ts k p] (.Tuple vs k2 p2) pos) (tS C F0 L0 H0 W lv fun ρ s => RS.of (ms ρ s) ρ fun ds s => RS.of (R.of (setPar ρ is ds) s) ρ fun ρ' s => .nx ρ' s) := by
  have hg : PG X (.Tuple ts k p) (gOf C.K (.tup (is.map (·.2)))) := g.tg (tg := .tup (is.map (·.2))) (e := .Tuple ts k p) (by exact ht)
  refine s_par (ps_asg (pe_tup hv) hg (by rfl) (swap_ok (by rw [g.sc]; exact hf) (by rw [g.sc]; exact hs))) fun D' σ H q => ?_
  refine q.sh fun vs H' hl' p => ?_
  rw [List.length_map] at hl'
  refine ⟨by rw [hl', sizeBIG]; exact Nat.le_trans hl (by decide), fun a ha => ⟨a, vs, rfl, .inl (.inl upd_same), by rw [hl', List.length_map], gsOf_set hl' (p _ (.inr ⟨a, ha, rfl⟩))⟩⟩
theorem p_two {o o' : Bool} {i j : Nat} {x y : Str} {a b : Expr} {px py : Pos} {k k2 : Nat} {p p2 : Pos} (g : Good C W Γ fs X) (hf : Γ.sc.kind = .function) (hs : swap Γ.sc [.Name x px, .Name y py] [a, b] = some (some [x, y])) (hi : Γ.N[i]? = some x) (hj : Γ.N[j]? = some y) (hij : i ≠ j)
    (hx : Γ.sc.names.lookup x = some .local) (hy : Γ.sc.names.lookup y = some .local) (hv : PA X [a, b] (tL C W [o, o'] ms)) :
    PS X (.Assign [.Tuple [.Name x px, .Name y py] k p] (.Tuple [a, b] k2 p2) pos) (tS C F0 L0 H0 W lv fun ρ s => RS.of (ms ρ s) ρ fun ds s => RS.of (R.of (setPar ρ [(o, i), (o', j)] ds) s) ρ fun ρ' s => .nx ρ' s) := by
  refine s_par (ps_par g.calm g.nN (by rw [g.hN]; exact hi) (by rw [g.hN]; exact hj) hij (by rw [g.sc]; exact hx) (by rw [g.sc]; exact hy) hv (swap_ok (by rw [g.sc]; exact hf) (by rw [g.sc]; exact hs)) (by rfl)) fun D' σ H q => ?_
  refine q.sh fun vs H' hl p => ?_
  match vs, hl with
  | [v, w], _ => exact ⟨v, w, rfl, p _ (.inl rfl)⟩
theorem p_three {o o' o2 : Bool} {i j l : Nat} {x y z : Str} {a b c : Expr} {px py pz : Pos} {k k2 : Nat} {p p2 : Pos} (g : Good C W Γ fs X) (hf : Γ.sc.kind = .function) (hs : swap Γ.sc [.Name x px, .Name y py, .Name z pz] [a, b, c] = some (some [x, y, z])) (hi : Γ.N[i]? = some x) (hj : Γ.N[j]? = some y) (hl : Γ.N[l]? = some z) (hij : i ≠ j) (hil : i ≠ l) (hjl : j ≠ l)
    (hx : Γ.sc.names.lookup x = some .local) (hy : Γ.sc.names.lookup y = some .local) (hz : Γ.sc.names.lookup z = some .local) (hv : PA X [a, b, c] (tL C W [o, o', o2] ms)) :
    PS X (.Assign [.Tuple [.Name x px, .Name y py, .Name z pz] k p] (.Tuple [a, b, c] k2 p2) pos) (tS C F0 L0 H0 W lv fun ρ s => RS.of (ms ρ s) ρ fun ds s => RS.of (R.of (setPar ρ [(o, i), (o', j), (o2, l)] ds) s) ρ fun ρ' s => .nx ρ' s) := by
  refine s_par (ps_par3 g.calm g.nN (by rw [g.hN]; exact hi) (by rw [g.hN]; exact hj) (by rw [g.hN]; exact hl) hij hil hjl (by rw [g.sc]; exact hx) (by rw [g.sc]; exact hy) (by rw [g.sc]; exact hz) hv (swap_ok (by rw [g.sc]; exact hf) (by rw [g.sc]; exact hs)) (by rfl)) fun D' σ H q => ?_
  refine q.sh fun vs H' hl p => ?_
  match vs, hl with
  | [v, w, u], _ => exact ⟨v, w, u, rfl, p _ (.inl rfl)⟩
/-! ### a comprehension to a name -/
def swB (sc : Scope) (v : Expr) (x : Str) (py : Pos) : Bool := match v with
  | .ListComp _ _ s p | .SetComp _ _ s p | .DictComp _ _ _ s p => decide (sc.names.lookup x = some .local) && (py.line == p.line) && !(s.names.any fun (n, k) => n == x && (k == .local || k == .cell))
  | _ => false
theorem swB_ok {env : Env} {v : Expr} {x : Str} {py : Pos} {l : Nat} (hk : env.scope.kind = .function) : swapsWith v (some (.Name x py)) l env = pure (swB env.scope v x py) := by
  have hb : env.blockKind = .function := by unfold Env.blockKind; rw [hk]; rfl
  have he : (env.kindOf x == some NameKind.local) = decide (env.scope.names.lookup x = some .local) := by
    show (env.scope.names.lookup x == some NameKind.local) = _
    rw [Bool.eq_iff_iff, beq_iff_eq, decide_eq_true_eq]
  cases v <;> first
    | rfl
    | (unfold swapsWith swB; simp only [hb, Expr.pos, he]; rfl)
theorem fr_of_rep {m : Env' → Sto → R D} {σ : Sg} {H : Hp} {Q : VK} (q : tE C W .rep m σ H Q) : tE C W .fr m σ H Q := by
  obtain ⟨F, L, S, ρ, k, en, q⟩ := q
  refine ⟨F, L, S, ρ, k, en, ?_⟩
  cases e : m ρ S with
  | ok d S' =>
    rw [e] at q
    intro F' L' H' x k' v r
    obtain ⟨F2, k2, x2, r2⟩ := Vok.weak r k' x
    exact q _ _ _ x2 k2 _ r2
  | exc x S' => rw [e] at q; exact q
  | stuck => rw [e] at q; exact q
end
/-! ### the looker -/
def isFn (sc : Scope) : Bool := match sc.kind with | .function => true | _ => false
theorem isFn_of {sc : Scope} (h : isFn sc = true) : sc.kind = .function := by
  unfold isFn at h
  split at h
  · assumption
  · cases h
def chkM (Γ : Gm) : List Bool → List E → List Expr → Bool
  | [], [], [] => true
  | o :: os, e :: es, x :: xs => notStar x && chkE Γ false (lvO o) e x && chkM Γ os es xs
  | _, _, _ => false
def locB (Γ : Gm) (i : Nat) (x : Str) : Bool := decide (Γ.N[i]? = some x) && decide (Γ.sc.names.lookup x = some .local)
def chkPar (Γ : Gm) (is : List (Bool × Nat)) (ts vs : List Expr) : Bool := match swap Γ.sc ts vs with
  | some none => decide (is.length ≤ 8) && tgsB Γ (is.map (·.2)) ts
  | some (some ns) => (match is, ts with
    | [(_, i), (_, j)], [.Name x _, .Name y _] => decide (ns = [x, y]) && locB Γ i x && locB Γ j y && decide (i ≠ j)
    | [(_, i), (_, j), (_, l)], [.Name x _, .Name y _, .Name z _] => decide (ns = [x, y, z]) && locB Γ i x && locB Γ j y && locB Γ l z && decide (i ≠ j) && decide (i ≠ l) && decide (j ≠ l)
    | _, _ => false)
  | none => false
/-- x = e, at a level -/
def chkAsg (Γ : Gm) (lv : Lv) (i : Nat) (e : E) (st : Stmt) : Bool := match st with
  | .Assign [.Name x px] v _ => stB Γ i x && isFn Γ.sc && (match swB Γ.sc v x px with
    | false => chkE Γ false lv e v
    | true => locB Γ i x && (match v, e with
      | .ListComp el [⟨tx, it, cs, 0⟩] scope _, .comp own tg src ifs elt => blkC Γ.N Γ.sc scope (owOf Γ own) && tgInB own tg && tgB (Γ.blk scope (owOf Γ own)) tg tx && notSet it && chkSrc Γ false src tx it && chkIf (Γ.blk scope (owOf Γ own)) ifs cs && chkE (Γ.blk scope (owOf Γ own)) false .rep elt el
      | _, _ => false))
  | _ => false
mutual
def chkS (Γ : Gm) (lv : Lv) (s : St) (st : Stmt) : Bool := match s with
  | .asg i e => chkAsg Γ .rep i e st
  | .asgO i e => chkAsg Γ .fr i e st
  | .unp is e => (match st with | .Assign [.Tuple ts _ _] v _ => notComp v && !isTupE v && tgsB Γ is ts && chkE Γ false .rep e v | _ => false)
  | .par is es => (match st with | .Assign [.Tuple ts _ _] (.Tuple vs _ _) _ => isFn Γ.sc && chkM Γ (is.map (·.1)) es vs && chkPar Γ is ts vs | _ => false)
  | .setI i k e => (match st with | .Assign [.Subscript (.Name x _) kx _] v _ => nmB Γ i x && notSl kx && chkE Γ false .rep e v && chkE Γ false .pk k kx | _ => false)
  | .setK i k e => (match st with | .Assign [.Subscript (.Name x _) kx _] v _ => nmB Γ i x && chkE Γ false .rep e v && chkE Γ false .pk k kx | _ => false)
  | .aug i o e => (match st with | .AugAssign (.Name x _) op v _ => decide (op = opOf o) && (decide (o = .add) || decide (o = .mul)) && stB Γ i x && dbgOk x && chkE Γ false .pk e v | _ => false)
  | .app i e => (match st with | .Expr (.Call (.Attribute (.Name x _) n ap) [v] [] cp) _ => decide (n = ("append" : Str)) && decide (ap.endLine = cp.line) && nmB Γ i x && notStar v && chkE Γ false .rep e v | _ => false)
  | .exp e => (match st with | .Expr v _ => notComp v && chkE Γ false .pk e v | _ => false)
  | .ret e => (match st with | .Return (some v) _ => chkE Γ false lv e v | _ => false)
  | .retO i => (match st with | .Return (some (.Name x _)) _ => Lv.le .rep lv && nmB Γ i x | _ => false)
  | .retN => (match st with | .Return none _ => Lv.le .rep lv | _ => false)
  | .ite c a b => (match st with | .If t x y _ => chkE Γ true .pk c t && chkSs Γ lv a x && chkSs Γ lv b y | _ => false)
  | .for_ tg src body => (match st with | .For tx it b [] _ => tgB Γ tg tx && notSet it && chkSrc Γ true src tx it && chkSs Γ lv body b | _ => false)
  | .pass => (match st with | .Pass _ => true | _ => false)
  | .never => true
  | .frz _ s => chkS Γ lv s st
  | .cset a k e => (match st with | .Assign [.Subscript x kx _] v _ => notSl kx && chkE Γ false .rep a x && chkE Γ false .rep e v && chkE Γ false .pk k kx | _ => false)
  | .whl c body => (match st with | .While t b [] _ => chkE Γ true .pk c t && chkSs Γ lv body b | _ => false)
def chkSs (Γ : Gm) (lv : Lv) (s : List St) (st : List Stmt) : Bool := match s with
  | [] => (match st with | [] => true | _ => false)
  | s :: ss => (match st with | st :: sts => chkS Γ lv s st && chkSs Γ lv ss sts | _ => false)
end
end MP

/-! MP: statements: what the lookers pass. -/
namespace MP
open PySem PySem.Spec PyProof.Rows L2
structure GoodS (C : Cn) (W : WX) (Γ : Gm) (fs : List FS) (X : Cx) : Prop extends Good C W Γ fs X where
  pas : PassesOwn (model X.prog X.w) X.A X.env X.xe
section
variable {C : Cn} {F0 : Hp} {L0 : List Addr} {H0 : Hp} {W : WX} {X : Cx} {lv lw : Lv} {a b c : Expr} {pos : Pos} {ma mb mc : Env' → Sto → R D} {Γ : Gm} {fs : List FS} {ms : Env' → Sto → R (List D)} {os : List Bool}
theorem sw_sub {v a b : Expr} {p : Pos} {l : Nat} {env : Env} : swapsWith v (some (.Subscript a b p)) l env = pure false := by cases v <;> rfl
theorem sub_of {x : Str} {p sp : Pos} {kx : Expr} {env : Env} (h : notSl kx = true) : ∀ v, assign (.Subscript (.Name x p) kx sp) env v = (do
      let ov ← holding [v] (eval (.Name x p) env)
      let iv ← holding [v, ov] (eval kx env)
      standAt sp
      holding [v, ov, iv] (setItem ov iv v)
      release [v, ov, iv] []) := fun v => by cases kx <;> first | rfl | cases h
theorem subA_of {A : Expr} {sp : Pos} {kx : Expr} {env : Env} (h : notSl kx = true) : ∀ v, assign (.Subscript A kx sp) env v = (do
      let ov ← holding [v] (eval A env)
      let iv ← holding [v, ov] (eval kx env)
      standAt sp
      holding [v, ov, iv] (setItem ov iv v)
      release [v, ov, iv] []) := fun v => by cases kx <;> first | rfl | cases h
theorem chkM_ok (g : Good C W Γ fs X) : ∀ {os : List Bool} {es : List E} {xs : List Expr}, chkM Γ os es xs = true → PA X xs (tL C W os fun ρ s => evEs (fnL fs) ρ es s)
  | [], [], [], _ => m_lnil
  | o :: os, e :: es, x :: xs, h => by
    simp only [chkM, Bool.and_eq_true] at h
    have ha := (chkE_ok e g h.1.2).1 rfl
    have := m_lcons (star_cons h.1.1) ha (chkM_ok g h.2)
    have e2 : (fun ρ s => evEs (fnL fs) ρ (e :: es) s) = fun ρ s => (evE (fnL fs) ρ e s).bind fun d s => (evEs (fnL fs) ρ es s).bind fun ds s => .ok (d :: ds) s := by
      funext ρ s
      cases e <;> first | rfl | (have := h.1.2; unfold chkE at this; cases this)
    rw [e2]
    exact this
  | [], [], _ :: _, h => by simp [chkM] at h
  | [], _ :: _, _, h => by simp [chkM] at h
  | _ :: _, [], _, h => by simp [chkM] at h
  | _ :: _, _ :: _, [], h => by simp [chkM] at h
theorem locB_of {i : Nat} {x : Str} (h : locB Γ i x = true) : Γ.N[i]? = some x ∧ Γ.sc.names.lookup x = some .local := by
  simpa [locB] using h
theorem chkPar_ok (g : Good C W Γ fs X) {is : List (Bool × Nat)} {ts vs : List Expr} {k k2 : Nat} {p p2 : Pos} (hf : isFn Γ.sc = true) (hv : PA X vs (tL C W (is.map (·.1)) ms)) (h : chkPar Γ is ts vs = true) :
    PS X (.Assign [.Tuple ts k p] (.Tuple vs k2 p2) pos) (tS C F0 L0 H0 W lv fun ρ s => RS.of (ms ρ s) ρ fun ds s => RS.of (R.of (setPar ρ is ds) s) ρ fun ρ' s => .nx ρ' s) := by
  unfold chkPar at h
  split at h
  · rename_i hs
    simp only [Bool.and_eq_true, decide_eq_true_eq] at h
    exact p_tup g (isFn_of hf) hs h.1 h.2 hv
  · rename_i ns hs
    split at h
    · simp only [Bool.and_eq_true, decide_eq_true_eq] at h
      obtain ⟨⟨⟨rfl, h1⟩, h2⟩, h3⟩ := h
      have hl : vs.length = 2 := by
        by_cases hh : vs.length = 2
        · exact hh
        · unfold swap at hs
          rw [if_pos (by simp [hh])] at hs
          cases hs
      match vs, hl with
      | [a, b], _ => exact p_two g (isFn_of hf) hs (locB_of h1).1 (locB_of h2).1 h3 (locB_of h1).2 (locB_of h2).2 hv
    · simp only [Bool.and_eq_true, decide_eq_true_eq] at h
      obtain ⟨⟨⟨⟨⟨⟨rfl, h1⟩, h2⟩, h3⟩, h4⟩, h5⟩, h6⟩ := h
      have hl : vs.length = 3 := by
        by_cases hh : vs.length = 3
        · exact hh
        · unfold swap at hs
          rw [if_pos (by simp [hh])] at hs
          cases hs
      match vs, hl with
      | [a, b, c], _ => exact p_three g (isFn_of hf) hs (locB_of h1).1 (locB_of h2).1 (locB_of h3).1 h4 h5 h6 (locB_of h1).2 (locB_of h2).2 (locB_of h3).2 hv
    · cases h
  · cases h
theorem Good.loc (g : Good C W Γ fs X) {i : Nat} {x : Str} (h : stB Γ i x = true) : X.N[i]? = some x ∧ Loc X.env.scope x ∧ (X.fn x = true ∨ X.env.scope.names.lookup x = some .local) := by
  simp only [stB, Bool.and_eq_true, Bool.or_eq_true, decide_eq_true_eq] at h
  refine ⟨by rw [g.hN]; exact h.1, ?_, ?_⟩
  · rw [g.sc]
    rcases h.2 with h | h
    · exact .inl h
    · exact .inr h.1
  · rw [g.sc]
    rcases h.2 with h | h
    · exact .inr h
    · exact .inl (g.own _ h.2)
/-- x = e by its looker: at rep or fr -/
theorem chkAsg_ok (g : Good C W Γ fs X) {i : Nat} {e : E} {st : Stmt} (hlv : lv = .rep ∨ lv = .fr) (h : chkAsg Γ lv i e st = true) : ∃ te, PS X st (tAsg te (gName i)) ∧ ∀ σ H Q, tE C W lv (fun ρ s => evE (fnL fs) ρ e s) σ H Q → te σ H Q := by
  unfold chkAsg at h
  split at h
  · rename_i x px v sp
    simp only [Bool.and_eq_true] at h
    obtain ⟨⟨h1, h2⟩, h3⟩ := h
    obtain ⟨q1, q2, q3⟩ := g.loc h1
    have hk : X.env.scope.kind = .function := by rw [g.sc]; exact isFn_of h2
    have hsw : swapsWith v (some (.Name x px)) sp.line X.env = pure (swB X.env.scope v x px) := swB_ok hk
    rw [g.sc] at hsw
    split at h3
    · rename_i hb
      rw [hb] at hsw
      exact ⟨_, ps_set g.nN q1 q2 ((chkE_ok e g h3).1 rfl) hsw q3, fun _ _ _ q => q⟩
    · rename_i hb
      rw [hb] at hsw
      simp only [Bool.and_eq_true] at h3
      obtain ⟨hl, h3⟩ := h3
      split at h3
      · rename_i el tx it cs scope p own tg src ifs elt
        simp only [Bool.and_eq_true] at h3
        obtain ⟨⟨⟨⟨⟨⟨a1, a2⟩, a3⟩, a4⟩, a5⟩, a6⟩, a7⟩ := h3
        have hb := blkOk_by a1
        refine ⟨_, ps_setLc g.calm g.nN q1 (by rw [g.sc]; exact (locB_of hl).2) hsw (chkSrc_ok src g a5) (by rw [g.hN, g.sc]; exact hb) (fun s H A cl fp => g.blk.tg a3) (fun s H A cl fp => chkIf_ok ifs g.blk a6) (fun s H A cl fp => (chkE_ok elt g.blk a7).1 rfl) (fs_of a4), fun σ H Q q => ?_⟩
        rw [ow_map]
        refine lc_read (tgIn_of a2) ?_
        rcases hlv with e | e
        · subst e; exact fr_of_rep q
        · subst e; exact q
      · cases h3
  · cases h
end
theorem whl_eq (fn : Nat → FS) (c : E) (body : List St) (ρ : Env') (s : Sto) : evS fn ρ (.whl c body) s = whlLoop (tst fun ρ s => evE fn ρ c s) (fun ρ s => evSs fn ρ body s) BIG ρ s := by
  rw [evS]
  rfl
mutual
theorem chkS_ok {C : Cn} {F0 : Hp} {L0 : List Addr} {H0 : Hp} {fs : List FS} : ∀ (s : St) {W : WX} {X : Cx} {Γ : Gm} {lv : Lv} {st : Stmt}, GoodS C W Γ fs X → chkS Γ lv s st = true → PS X st (tS C F0 L0 H0 W lv fun ρ s' => evS (fnL fs) ρ s s')
  | .asg i e, W, X, Γ, lv, st, g, h => by
    unfold chkS at h
    obtain ⟨te, h1, h2⟩ := chkAsg_ok g.toGood (.inl rfl) h
    exact s_asg h1 h2
  | .asgO i e, W, X, Γ, lv, st, g, h => by
    unfold chkS at h
    obtain ⟨te, h1, h2⟩ := chkAsg_ok g.toGood (.inr rfl) h
    exact s_asgO h1 h2
  | .unp is e, W, X, Γ, lv, st, g, h => by
    unfold chkS at h
    split at h
    · simp only [Bool.and_eq_true, Bool.not_eq_true'] at h
      obtain ⟨⟨⟨h1, h2⟩, h3⟩, h4⟩ := h
      rename_i ts k p v sp
      have hg : PG X (.Tuple ts k p) (gOf C.K (.tup is)) := g.tg (tg := .tup is) (e := .Tuple ts k p) (by exact h3)
      exact s_unp (ps_asg ((chkE_ok e g.toGood h4).1 rfl) hg (by unfold swapsWithSole; exact sw_of h1) (by cases v <;> first | rfl | cases h2)) fun _ _ _ q => q
    · cases h
  | .par is es, W, X, Γ, lv, st, g, h => by
    unfold chkS at h
    split at h
    · simp only [Bool.and_eq_true] at h
      exact chkPar_ok g.toGood h.1.1 (chkM_ok g.toGood h.1.2) h.2
    · cases h
  | .setI i k e, W, X, Γ, lv, st, g, h => by
    unfold chkS at h
    split at h
    · simp only [Bool.and_eq_true] at h
      obtain ⟨⟨⟨h1, h2⟩, h3⟩, h4⟩ := h
      exact s_setI (g.name h1) (by unfold swapsWithSole; exact sw_sub) (by rfl) ((chkE_ok e g.toGood h3).1 rfl) ((chkE_ok k g.toGood h4).1 rfl) (sub_of h2)
    · cases h
  | .setK i k e, W, X, Γ, lv, st, g, h => by
    unfold chkS at h
    split at h
    · simp only [Bool.and_eq_true] at h
      obtain ⟨⟨h1, h3⟩, h4⟩ := h
      exact s_setK (by have := g.u; omega) (g.name h1) sw_sub ((chkE_ok e g.toGood h3).1 rfl) ((chkE_ok k g.toGood h4).1 rfl)
    · cases h
  | .aug i o e, W, X, Γ, lv, st, g, h => by
    unfold chkS at h
    split at h
    · simp only [Bool.and_eq_true, Bool.or_eq_true, decide_eq_true_eq] at h
      obtain ⟨⟨⟨⟨rfl, h1⟩, h2⟩, h3⟩, h4⟩ := h
      obtain ⟨r, hr, hf⟩ := aug_ok (X := X) (C := C) o h1
      obtain ⟨q1, q2, q3⟩ := g.loc h2
      exact s_aug (ps_aug g.nN q1 q2 ((chkE_ok e g.toGood h4).1 rfl) hr q3) hf
    · cases h
  | .app i e, W, X, Γ, lv, st, g, h => by
    unfold chkS at h
    split at h
    · simp only [Bool.and_eq_true, decide_eq_true_eq] at h
      obtain ⟨⟨⟨⟨rfl, h1⟩, h2⟩, h3⟩, h4⟩ := h
      exact s_app (g.name h2) (ab_of rfl) (by simpa using h1) (star_one h3) ((chkE_ok e g.toGood h4).1 rfl)
    · cases h
  | .exp e, W, X, Γ, lv, st, g, h => by
    unfold chkS at h
    split at h
    · simp only [Bool.and_eq_true] at h
      exact s_exp (ps_expr ((chkE_ok e g.toGood h.2).1 rfl) (sw_of h.1)) fun _ _ _ q => q
    · cases h
  | .ret e, W, X, Γ, lv, st, g, h => by
    unfold chkS at h
    split at h
    · exact s_ret (ps_ret ((chkE_ok e g.toGood h).1 rfl)) fun _ _ _ q => q
    · cases h
  | .retO i, W, X, Γ, lv, st, g, h => by
    unfold chkS at h
    split at h
    · simp only [Bool.and_eq_true] at h
      exact s_retO (ps_ret (g.name h.2)) (by cases lv <;> simp_all [Lv.le])
    · cases h
  | .retN, W, X, Γ, lv, st, g, h => by
    unfold chkS at h
    split at h
    · exact s_retN ps_retN (by cases lv <;> simp_all [Lv.le])
    · cases h
  | .ite c a b, W, X, Γ, lv, st, g, h => by
    unfold chkS at h
    split at h
    · simp only [Bool.and_eq_true] at h
      have := s_if (F0 := F0) (L0 := L0) (H0 := H0) (lv := lv) (pos := ‹_›) ((chkE_ok c g.toGood h.1.1).2 rfl rfl) (chkSs_ok a g h.1.2) (chkSs_ok b g h.2)
      refine ps_cong this fun ρ s => ?_
      show RS.of (evE (fnL fs) ρ c s) ρ (fun x s => RS.of (R.of x.truth s) ρ fun t s => if t then evSs (fnL fs) ρ a s else evSs (fnL fs) ρ b s) = RS.of ((evE (fnL fs) ρ c s).bind fun x s => R.of x.truth s) ρ _
      cases evE (fnL fs) ρ c s <;> rfl
    · cases h
  | .for_ tg src body, W, X, Γ, lv, st, g, h => by
    unfold chkS at h
    split at h
    · simp only [Bool.and_eq_true] at h
      obtain ⟨⟨⟨h1, h2⟩, h3⟩, h4⟩ := h
      exact s_for g.K g.pas g.calm (chkSrc_ok src g.toGood h3) (g.tg h1) (chkSs_ok body g h4) (fs_of h2)
    · cases h
  | .pass, W, X, Γ, lv, st, g, h => by
    unfold chkS at h
    split at h
    · exact s_pass ps_pass
    · cases h
  | .never, W, X, Γ, lv, st, g, h => s_never
  | .frz i s, W, X, Γ, lv, st, g, h => by
    unfold chkS at h
    exact s_frz (chkS_ok s g h)
  | .cset a k e, W, X, Γ, lv, st, g, h => by
    unfold chkS at h
    split at h
    · simp only [Bool.and_eq_true] at h
      obtain ⟨⟨⟨h1, h2⟩, h3⟩, h4⟩ := h
      exact s_cset ((chkE_ok a g.toGood h2).1 rfl) (by unfold swapsWithSole; exact sw_sub) (by rfl) ((chkE_ok e g.toGood h3).1 rfl) ((chkE_ok k g.toGood h4).1 rfl) (subA_of h1)
    · cases h
  | .whl c body, W, X, Γ, lv, st, g, h => by
    unfold chkS at h
    split at h
    · simp only [Bool.and_eq_true] at h
      have h1 := (chkE_ok c g.toGood h.1).2 rfl rfl
      have h2 := chkSs_ok (F0 := F0) (L0 := L0) (H0 := H0) body g h.2
      exact ps_cong (s_whl (n := BIG) g.pas h1 h2) (whl_eq _ c body)
    · cases h
theorem chkSs_ok {C : Cn} {F0 : Hp} {L0 : List Addr} {H0 : Hp} {fs : List FS} : ∀ (s : List St) {W : WX} {X : Cx} {Γ : Gm} {lv : Lv} {st : List Stmt}, GoodS C W Γ fs X → chkSs Γ lv s st = true → PSs X st (tS C F0 L0 H0 W lv fun ρ s' => evSs (fnL fs) ρ s s')
  | [], W, X, Γ, lv, st, g, h => by
    unfold chkSs at h
    split at h
    · exact m_nil
    · cases h
  | s :: ss, W, X, Γ, lv, st, g, h => by
    unfold chkSs at h
    split at h
    · simp only [Bool.and_eq_true] at h
      exact m_cons (chkS_ok s g h.1) (chkSs_ok ss g h.2)
    · cases h
end
end MP

/-! MP: a def by its body's looker. -/
namespace MP
open PySem PySem.Spec PyProof.Rows L2
/-- the program around the defs, as the top left it -/
structure Wd where
  C : Cn
  P : Program
  w : World
  mg : Str → Option Value
  base : Heap
structure WdOk (D : Wd) (tk : List (Str × List Str)) : Prop where
  blt : ∀ x ∈ bltNames, D.mg x = none
  tk : ∀ p ∈ tk, TupK D.C.K D.mg p.1 p.2
  prg : PrgOk D.C
abbrev FnKx (D : Wd) (k : Nat) (n : Nat) (fr : Bool) (f : FS) (a : Addr) (fd : FuncData) (ps : List Str) : Prop := FnOk D.P D.w D.C.K D.mg D.base (L2.CX D.P D.w) k a fd ps (spD D.C n fr f)
def FIK (D : Wd) (k : Nat) (i : FI) (f : FS) : Prop := match i with
  | .fn x n fr => ∃ (a : Addr) (fd : FuncData) (ps : List Str), FnKx D k n fr f a fd ps ∧ D.mg x = some (.ref a) ∧ PySem.W.keepIn D.C.K (.ref a) = true ∧ Binds D.C.K fd ps []
  | .hk h => ∀ A, Room k A → HookOk D.C ⟨D.P, D.w, D.C.K, D.mg, D.base, A⟩ h f
theorem FIK.mono {D : Wd} {j k : Nat} {i : FI} {f : FS} (h : FIK D j i f) (le : j ≤ k) : FIK D k i f := by
  cases i with
  | fn x n fr =>
    obtain ⟨a, fd, ps, h1, h2⟩ := h
    exact ⟨a, fd, ps, FnOk.mono h1 le, h2⟩
  | hk h' => exact fun A r => h A (r.mono le)
inductive FIsK (D : Wd) (k : Nat) : List FI → List FS → Prop
  | nil : FIsK D k [] []
  | cons {i : FI} {f : FS} {is : List FI} {fs : List FS} {j : Nat} : FIK D j i f → j ≤ k → FIsK D k is fs → FIsK D k (i :: is) (f :: fs)
theorem FIsK.at {D : Wd} {k : Nat} {is : List FI} {fs : List FS} (h : FIsK D k is fs) {A : Around} (r : Room k A) : FIs D.C ⟨D.P, D.w, D.C.K, D.mg, D.base, A⟩ is fs := by
  induction h with
  | nil => exact .nil
  | @cons i f is fs j h le t ih =>
    refine .cons ?_ ih
    cases i with
    | fn x n fr =>
      obtain ⟨a, fd, ps, h1, h2⟩ := h
      exact ⟨j, a, fd, ps, h1, r.mono le, h2⟩
    | hk h' => exact h A (r.mono le)
theorem env_start {C : Cn} {F : Hp} {L : List Addr} {H : Hp} {N : List Str} {vs : List V} {ds : List D} (r : RepAll C F L vs ds) (hl : vs.length ≤ N.length) : EnvOk C F L H (startE N.length ds) (L2.start N vs) where
  len := by simp only [startE, L2.start, List.length_append, List.length_map, List.length_replicate, r.length]
  slot := fun i z x h1 h2 => by
    unfold startE at h1
    unfold L2.start at h2
    by_cases hi : i < ds.length
    · have hv : i < vs.length := by rw [r.length]; exact hi
      rw [List.getElem?_append_left (by simpa using hi)] at h1
      rw [List.getElem?_append_left (by simpa using hv)] at h2
      simp only [List.getElem?_map, List.getElem?_eq_getElem hi, List.getElem?_eq_getElem hv, Option.map_some, Option.some.injEq] at h1 h2
      subst h1 h2
      obtain ⟨v, e1, e2⟩ := r.get (List.getElem?_eq_getElem hi)
      rw [List.getElem?_eq_getElem hv] at e1
      cases e1
      exact ⟨_, rfl, e2⟩
    · rw [List.getElem?_append_right (by simpa using hi)] at h1
      rw [List.getElem?_replicate] at h1
      split at h1 <;> cases h1
      trivial
  sep := fun j k e e' w h1 h2 h3 h4 => by
    unfold startE at h1
    by_cases hi : j < ds.length
    · rw [List.getElem?_append_left (by simpa using hi)] at h1
      simp only [List.getElem?_map, List.getElem?_eq_getElem hi, Option.map_some, Option.some.injEq] at h1
      cases h1
    · rw [List.getElem?_append_right (by simpa using hi), List.getElem?_replicate] at h1
      split at h1 <;> cases h1
theorem own_start {H : Hp} {N : List Str} {vs : List V} {ds : List D} : OwnNew H (startE N.length ds) (L2.start N vs) := fun j e v h1 h2 => by
  unfold startE at h1
  by_cases hi : j < ds.length
  · rw [List.getElem?_append_left (by simpa using hi)] at h1
    simp only [List.getElem?_map, List.getElem?_eq_getElem hi, Option.map_some, Option.some.injEq] at h1
    cases h1
  · rw [List.getElem?_append_right (by simpa using hi), List.getElem?_replicate] at h1
    split at h1 <;> cases h1
def gmOf (N : List Str) (sc : Scope) (fns : List FI) (tk : List (Str × List Str)) : Gm := ⟨N, sc, N, fns, tk⟩
theorem good_cx {D : Wd} {tk : List (Str × List Str)} {k : Nat} {N : List Str} {sc : Scope} {is : List FI} {fs : List FS} {qual : Str} {f : Addr} {cd : Value} {A : Around} {outer : List Env} {s : Shared} {H : Hp} {E : XK} (wd : WdOk D tk) (hn : N.Nodup) (fi : FIsK D k is fs) (r : Room k (A.deeper (envOfC qual sc s.heap.objs.size f cd))) :
    GoodS D.C (fun c d _ H' => E c d H') (gmOf N sc is tk) fs (cxOf (L2.CX D.P D.w) D.P D.w D.C.K D.mg D.base N qual sc f cd A outer s H E) where
  b := ⟨rfl, by have := r.un; show (A.deeper _).units + 65 < _; omega, fi.at r, wd.blt, wd.tk, wd.prg⟩
  calm := rfl
  nodup := hn
  hN := rfl
  sc := rfl
  own := fun _ _ => rfl
  tk := takes_of rfl rfl rfl rfl
  pas := passes_of rfl
/-- a def by its looker -/
theorem def_ok {D : Wd} {tk : List (Str × List Str)} {k : Nat} {N ps : List Str} {sc : Scope} {is : List FI} {fs : List FS} {x qual : Str} {params : Arguments} {body : List Stmt} {kws : List (Str × V)} {f : Addr} {fd : FuncData} {fr : Bool} {ss : List St} (wd : WdOk D tk)
    (F : FunD D.C.K x qual params body sc [] kws f fd) (S : FnScope N ps sc) (fi : FIsK D k is fs) (h : chkSs (gmOf N sc is tk) (lvOf fr) ss body = true) : FnKx D (k + 1) ps.length fr (evDef (fnL fs) N.length ss) f fd ps := by
  refine F.ok S (fun vs H Q E h => h.1) fun cdv A outer s H vs Q E hr hsp => ?_
  obtain ⟨hl, F0, L, S0, ds, k0, r, q⟩ := hsp
  have g := good_cx (E := E) (H := H) (outer := outer) (s := s) (cd := cdv) (f := f) (qual := qual) (A := A) wd S.nd fi hr
  refine ⟨_, chkSs_ok (F0 := F0) (L0 := L) (H0 := H) ss g h, F0, L, S0, startE N.length ds, Ext.refl _ _ _, k0, env_start r ?_, own_start, ?_⟩
  · have := congrArg List.length S.pre
    rw [List.length_take] at this
    omega
  · unfold evDef at q
    show Sn _ _ _ _ _ _ _ _ _ (evSs (fnL fs) (startE N.length ds) ss S0)
    cases e : evSs (fnL fs) (startE N.length ds) ss S0 with
    | nx ρ' S' =>
      rw [e] at q
      exact fun F' L' H' σ' x1 g1 k1 en ow => q F' L' H' x1 k1 .non (by cases fr <;> first | exact Vok.re rfl .non | exact Rep.non)
    | ret d S' =>
      rw [e] at q
      exact fun F' L' H' v x1 k1 rv => q F' L' H' x1 k1 v rv
    | exc y ρ' S' =>
      rw [e] at q
      exact fun F' L' H' dx σ' x1 k1 o en ow => q F' L' H' dx x1 k1 o
    | stuck => rw [e] at q; exact q
end MP

/-! MP: forms of a def's own choice. -/
namespace MP
open PySem PySem.Spec PyProof.Rows L2
/-- a written global -/
def hkG (x : Str) : Hook := ⟨fun sc ex => match ex with | .Name y _ => if decide (y = x) && glB sc y then some [] else none | _ => none, .pk, .rep⟩
def constF (d : D) : FS := fun _ s => .ok d s
/-- C(a, ..) -/
def hkNew (x : Str) (n : Nat) : Hook := ⟨fun sc ex => match ex with | .Call (.Name y _) args [] _ => if decide (y = x) && glB sc y && decide (args.length = n) && args.all notStar then some args else none | _ => none, .rep, .rep⟩
/-- a.p -/
def hkProp (p : Str) : Hook := ⟨fun _ ex => match ex with | .Attribute a n _ => if decide (n = p) && notCall0 a then some [a] else none | _ => none, .pk, .rep⟩
/-- a.m(b, ..) -/
def hkMeth (m : Str) (n : Nat) (lv out : Lv) : Hook := ⟨fun _ ex => match ex with | .Call (.Attribute a q ap) args [] cp => if decide (q = m) && notCall0 a && decide (ap.endLine = cp.line) && decide (args.length = n) && args.all notStar then some (a :: args) else none | _ => none, lv, out⟩
theorem hkG_ok {C : Cn} {B : Bs} {x : Str} {d : D} {v : V} {u : Value} (hm : B.mg x = some u) (r : RelV v u) (hr : ∀ F L, Rep C F L v d) : HookOk C B (hkG x) (constF d) := ⟨fun X W ex es ms hb hK hc hu tk hmt pl => by
  subst hb
  simp only [hkG] at hmt
  split at hmt
  · split at hmt
    · rename_i h
      simp only [Bool.and_eq_true, decide_eq_true_eq] at h
      obtain ⟨rfl, h⟩ := h
      cases hmt
      cases pl
      simp only [glB, Bool.and_eq_true, decide_eq_true_eq] at h
      exact m_glob (pe_glob h.1 hm r (dbg_of h.2).1) hr
    · cases hmt
  · cases hmt⟩
end MP

/-! MP: a program made. -/
namespace MP
open PySem PySem.Spec PyProof.Rows L2
/-- __init__: two checks, a test, three fields -/
structure IniE where
  e1 : E
  e2 : E
  c : E
  v1 : E
  v2 : E
  v3 : E
def chkIni (Γ : Gm) (i : IniE) (body : List Stmt) : Bool := match body with
  | [.Expr x1 _, .Expr x2 _, .If x3 _ [] _, .Assign [.Attribute (.Name s1 _) f1 _] y1 _, .Assign [.Attribute (.Name s2 _) f2 _] y2 _, .Assign [.Attribute (.Name s3 _) f3 _] y3 _] =>
    notComp x1 && notComp x2 && chkE Γ false .pk i.e1 x1 && chkE Γ false .pk i.e2 x2 && chkE Γ true .pk i.c x3 && nmB Γ 0 s1 && nmB Γ 0 s2 && nmB Γ 0 s3 &&
      decide (f1 = ("marks" : Str)) && decide (f2 = ("rows" : Str)) && decide (f3 = ("shown" : Str)) && notComp y1 && notComp y2 && notComp y3 && chkE Γ false .rep i.v1 y1 && chkE Γ false .rep i.v2 y2 && chkE Γ false .rep i.v3 y3
  | _ => false
def prgOf (h r c : D) (s : Sto) : R D := match h, r, c with
  | .str h, .tup xs, .str c => .ok (.prg h xs c) s
  | _, _, _ => .stuck
/-- what is made of the arguments -/
def iniF (fn : Nat → FS) (i : IniE) : FS := fun ds s => match ds with
  | [a, b, c] => (((evE fn [.no, .imm a, .imm b, .imm c] i.e1 s).bind fun _ s => (evE fn [.no, .imm a, .imm b, .imm c] i.e2 s).bind fun _ s => (tst (fun ρ s => evE fn ρ i.c s) [.no, .imm a, .imm b, .imm c] s).bind fun t s =>
      if t then .stuck else (evE fn [.no, .imm a, .imm b, .imm c] i.v1 s).bind fun h s => (evE fn [.no, .imm a, .imm b, .imm c] i.v2 s).bind fun r s => (evE fn [.no, .imm a, .imm b, .imm c] i.v3 s).bind fun z s => prgOf h r z s) : R D).nox
  | _ => .stuck
def spIni (C : Cn) (fn : Nat → FS) (i : IniE) : Sp := fun vs H Q _ => ∃ (p dx : Addr) (us : List V) (F : Hp) (L : List Addr) (H1 : Hp) (S S' : Sto) (ds : List D) (d : D), vs = .ref p :: us ∧ us.length = 3 ∧ H1 p = none ∧ H1 dx = none ∧ dx ≠ p ∧ H = upd (upd H1 dx (.own p)) p (.ins C.cP dx []) ∧ Ok C F L H1 S ∧ RepAll C F L us ds ∧
  iniF fn i ds S = .ok d S' ∧ ∀ F' L' H', Ext F L H1 F' L' H' → Ok C F' L' H' S' → Rep C F' L' (.ref p) d → Q .non H'
theorem kn1 : ¬ (("marks" : Str) = "rows") := by decide +kernel
theorem kn2 : ¬ (("marks" : Str) = "shown") := by decide +kernel
theorem kn3 : ¬ (("rows" : Str) = "shown") := by decide +kernel
theorem putF3 (x y z : V) : putF ("shown" : Str) z (putF ("rows" : Str) y (putF ("marks" : Str) x [])) = [(("marks" : Str), x), (("rows" : Str), y), (("shown" : Str), z)] := by
  show putF ("shown" : Str) z (if ("marks" : Str) = "rows" then _ else (("marks" : Str), x) :: putF ("rows" : Str) y []) = _
  rw [if_neg kn1]
  show (if ("marks" : Str) = "shown" then _ else (("marks" : Str), x) :: (if ("rows" : Str) = "shown" then _ else (("rows" : Str), y) :: putF ("shown" : Str) z [])) = _
  rw [if_neg kn2, if_neg kn3]
  rfl
theorem Ext.nF' {F F1 : Hp} {L L1 : List Addr} {H H1 : Hp} {p : Addr} (e : Ext F L H F1 L1 H1) (h : H p = none) (f : F p = none) : True := trivial
theorem putF_len (f : Str) (v : V) : ∀ fs : List (Str × V), (putF f v fs).length ≤ fs.length + 1
  | [] => Nat.le_refl _
  | (g, x) :: r => by
    unfold putF
    split
    · simp
    · simpa using putF_len f v r
theorem R.nox_inv {α : Type} {r : R α} {a : α} {s : Sto} (h : r.nox = .ok a s) : r = .ok a s := by
  cases r with
  | ok b t => exact h
  | exc x t => cases h
  | stuck => cases h
theorem Ext.offF {F F1 : Hp} {L L1 : List Addr} {H H1 : Hp} {p : Addr} (e : Ext F L H F1 L1 H1) (f : F p = none) (h : H p ≠ none) : F1 p = none := by
  cases q : F1 p with
  | none => rfl
  | some o =>
    rcases e.nF p o q with z | z
    · rw [f] at z; cases z
    · exact absurd z h
theorem Ext.offL {F F1 : Hp} {L L1 : List Addr} {H H1 : Hp} {p : Addr} (e : Ext F L H F1 L1 H1) (f : p ∉ L) (h : H p ≠ none) : p ∉ L1 := fun z => (e.nL p z).elim f h
theorem ini_ok {D : Wd} {tk : List (Str × List Str)} {k : Nat} {sc : Scope} {is : List FI} {fs : List FS} {x qual : Str} {params : Arguments} {body : List Stmt} {kws : List (Str × V)} {f : Addr} {fd : FuncData} {i : IniE} (wd : WdOk D tk) {ps : List Str} (hps : ps.length = 4)
    (F : FunD D.C.K x qual params body sc [] kws f fd) (S : FnScope ps ps sc) (fi : FIsK D k is fs) (h : chkIni (gmOf ps sc is tk) i body = true) : FnOk D.P D.w D.C.K D.mg D.base (L2.CX D.P D.w) (k + 1) f fd ps (spIni D.C (fnL fs) i) := by
  refine F.ok S (fun vs H Q E h => ?_) fun cdv A outer s H vs Q E hr hsp => ?_
  · obtain ⟨p, dx, us, _, _, _, _, _, _, _, rfl, hu, _⟩ := h
    simp [hu, hps]
  obtain ⟨p, dx, us, F0, L, H1, S0, S', ds, d, rfl, hu, np, ndx, hne, rfl, k0, r, ev, q⟩ := hsp
  have g := good_cx (E := E) (H := upd (upd H1 dx (.own p)) p (.ins D.C.cP dx [])) (outer := outer) (s := s) (cd := cdv) (f := f) (qual := qual) (A := A) wd S.nd fi hr
  unfold chkIni at h
  split at h
  · simp only [Bool.and_eq_true, decide_eq_true_eq] at h
    obtain ⟨⟨⟨⟨⟨⟨⟨⟨⟨⟨⟨⟨⟨⟨⟨⟨a1, a2⟩, a3⟩, a4⟩, a5⟩, a6⟩, a7⟩, a8⟩, rfl⟩, rfl⟩, rfl⟩, a9⟩, a10⟩, a11⟩, a12⟩, a13⟩, a14⟩ := h
    have e1 := (chkE_ok i.e1 g.toGood a3).1 rfl
    have e2 := (chkE_ok i.e2 g.toGood a4).1 rfl
    have e3 := (chkE_ok i.c g.toGood a5).2 rfl rfl
    have y1 := (chkE_ok i.v1 g.toGood a12).1 rfl
    have y2 := (chkE_ok i.v2 g.toGood a13).1 rfl
    have y3 := (chkE_ok i.v3 g.toGood a14).1 rfl
    refine ⟨_, pss_cons (ps_expr e1 (sw_of a1)) (pss_cons (ps_expr e2 (sw_of a2)) (pss_cons (ps_if e3 pss_never pss_nil) (pss_cons (ps_fld (g.name a6) y1 (sw_of a9)) (pss_cons (ps_fld (g.name a7) y2 (sw_of a10)) (pss_one (ps_fld (g.name a8) y3 (sw_of a11))))))), ?_⟩
    have rl := r.length
    rw [hu] at rl
    match us, ds, hu, rl, r with
    | [u1, u2, u3], [d1, d2, d3], _, _, .cons r1 (.cons r2 (.cons r3 .nil)) =>
    have ev := R.nox_inv ev
    have H0p : (upd (upd H1 dx (.own p)) p (.ins D.C.cP dx [])) p = some (.ins D.C.cP dx []) := upd_same
    have nF : F0 p = none := k0.notF np
    have nL : p ∉ L := k0.notL np
    have np2 : (upd H1 dx (.own p)) p = none := by rw [upd_ne hne.symm]; exact np
    have x0 : Ext F0 L H1 F0 L (upd (upd H1 dx (.own p)) p (.ins D.C.cP dx [])) := ((Ext.refl _ _ _).laid ndx).laid np2
    have k00 := (k0.laid (o := .own p) ndx).laid (o := .ins D.C.cP dx []) np2
    have en0 : ∀ H2, EnvOk D.C F0 L H2 [.no, .imm d1, .imm d2, .imm d3] (L2.start ps [.ref p, u1, u2, u3]) := fun H2 => by
      have e : L2.start ps [V.ref p, u1, u2, u3] = [some (V.ref p), some u1, some u2, some u3] := by unfold L2.start; simp [hps]
      rw [e]
      refine ⟨rfl, fun i z x h1 h2 => ?_, fun j k e e' w h1 h2 h3 h4 => ?_⟩
      · match i, h1, h2 with
        | 0, h1, h2 => cases h1; trivial
        | 1, h1, h2 => cases h1; cases h2; exact ⟨_, rfl, r1⟩
        | 2, h1, h2 => cases h1; cases h2; exact ⟨_, rfl, r2⟩
        | 3, h1, h2 => cases h1; cases h2; exact ⟨_, rfl, r3⟩
      · match j, h1 with
        | 0, h1 => cases h1
        | 1, h1 => cases h1
        | 2, h1 => cases h1
        | 3, h1 => cases h1
    obtain ⟨w1, s1, E1, ev⟩ := R.bind_ok_inv ev
    obtain ⟨w2, s2, E2, ev⟩ := R.bind_ok_inv ev
    obtain ⟨w3, s3, E3, ev⟩ := R.bind_ok_inv ev
    cases w3 with
    | true => cases ev
    | false =>
    rw [if_neg (by decide)] at ev
    obtain ⟨w4, s4, E4, ev⟩ := R.bind_ok_inv ev
    obtain ⟨w5, s5, E5, ev⟩ := R.bind_ok_inv ev
    obtain ⟨w6, s6, E6, ev⟩ := R.bind_ok_inv ev
    refine ⟨F0, L, S0, _, k00, en0 _, ?_⟩
    show Rn _ _ _ _ _ _ (evE _ _ _ _) _
    rw [E1]
    intro F2 M2 H2 x2 k2 v2 _
    have x2' := x0.trans x2
    refine ⟨F2, M2, s1, _, k2, (en0 _).ext x2, ?_⟩
    show Rn _ _ _ _ _ _ (evE _ _ _ _) _
    rw [E2]
    intro F3 L3 H3 x3 k3 v3 _
    have x3' := x2.trans x3
    refine ⟨F3, L3, s2, _, k3, (en0 _).ext x3', ?_⟩
    rw [E3]
    intro F4 L4 H4 x4 k4
    have x4' := x3'.trans x4
    refine iteF ⟨F4, L4, s3, _, k4, (en0 _).ext x4', ?_⟩
    show Rn _ _ _ _ _ _ (evE _ _ _ _) _
    rw [E4]
    intro F5 L5 H5 x5 k5 v5 r5
    have x5' := x4'.trans x5
    have r5 : Rep D.C F5 L5 v5 w4 := r5
    have h5 := x5'.keep p _ H0p nL
    have f5 := x5'.offF nF (by rw [H0p]; simp)
    have l5 := x5'.offL nL (by rw [H0p]; simp)
    have b5 := x0.trans x5'
    have c5 := g.b.prg.no
    have sp : (L2.start ps [V.ref p, u1, u2, u3])[0]? = some (some (V.ref p)) := by unfold L2.start; simp
    refine ⟨_, sp, p, D.C.cP, dx, _, rfl, h5, g.b.prg.cls, c5 .marks, by decide, ?_⟩
    have b6 : Ext F0 L H1 F5 L5 (upd H5 p (.ins D.C.cP dx (putF "marks" v5 []))) := b5.updNew np
    have k6 : Ok D.C F5 L5 (upd H5 p (.ins D.C.cP dx (putF "marks" v5 []))) s4 := k5.updNew f5 l5
    refine ⟨F5, L5, s4, _, k6, (en0 H1).ext b6, ?_⟩
    show Rn _ _ _ _ _ _ (evE _ _ _ _) _
    rw [E5]
    intro F7 L7 H7 x7 k7 v7 r7
    have r7 : Rep D.C F7 L7 v7 w5 := r7
    have h7 := x7.keep p _ upd_same l5
    have f7 := x7.offF f5 (by rw [upd_same]; simp)
    have l7 := x7.offL l5 (by rw [upd_same]; simp)
    have b7 := b6.trans x7
    refine ⟨_, sp, p, D.C.cP, dx, _, rfl, h7, g.b.prg.cls, c5 .rows, Nat.lt_of_le_of_lt (putF_len _ _ _) (by decide), ?_⟩
    have b8 : Ext F0 L H1 F7 L7 (upd H7 p (.ins D.C.cP dx (putF "rows" v7 (putF "marks" v5 [])))) := b7.updNew np
    have k8 : Ok D.C F7 L7 (upd H7 p (.ins D.C.cP dx (putF "rows" v7 (putF "marks" v5 [])))) s5 := k7.updNew f7 l7
    refine ⟨F7, L7, s5, _, k8, (en0 H1).ext b8, ?_⟩
    show Rn _ _ _ _ _ _ (evE _ _ _ _) _
    rw [E6]
    intro F9 L9 H9 x9 k9 v9 r9
    have r9 : Rep D.C F9 L9 v9 w6 := r9
    have h9 := x9.keep p _ upd_same l7
    have f9 := x9.offF f7 (by rw [upd_same]; simp)
    have l9 := x9.offL l7 (by rw [upd_same]; simp)
    have b9 := b8.trans x9
    refine ⟨_, sp, p, D.C.cP, dx, _, rfl, h9, g.b.prg.cls, c5 .shown, Nat.lt_of_le_of_lt (Nat.le_trans (putF_len _ _ _) (Nat.succ_le_succ (putF_len _ _ _))) (by decide), ?_⟩
    have b10 : Ext F0 L H1 F9 L9 (upd H9 p (.ins D.C.cP dx (putF "shown" v9 (putF "rows" v7 (putF "marks" v5 []))))) := b9.updNew np
    have k10 : Ok D.C F9 L9 (upd H9 p (.ins D.C.cP dx (putF "shown" v9 (putF "rows" v7 (putF "marks" v5 []))))) s6 := k9.updNew f9 l9
    rw [putF3] at b10 k10 ⊢
    have r5' := r5.up (x7.ff.trans x9.ff) (x7.ll.trans x9.ll)
    have r7' := r7.up x9.ff x9.ll
    unfold prgOf at ev
    split at ev
    · cases ev
      cases r5' with
      | str q1 z5 =>
      cases r7' with
      | @tup ta _ _ hs z7 rr =>
      cases r9 with
      | str q3 z9 =>
      exact q _ _ _ (b10.freeze np f9) (k10.freeze upd_same f9 l9) (.prg upd_same ((Sub.fz f9).sqT hs) z7 (rr.up (Sub.fz f9) (List.prefix_refl _)) z5 z9)
    · cases ev
  · cases h
theorem hkNew_some {x : Str} {n : Nat} {sc : Scope} {ex : Expr} {es : List Expr} (h : (hkNew x n).mt sc ex = some es) : ∃ p pos, ex = .Call (.Name x p) es [] pos ∧ glB sc x = true ∧ es.length = n ∧ es.all notStar = true := by
  simp only [hkNew] at h
  split at h
  · split at h
    · rename_i hh
      simp only [Bool.and_eq_true, decide_eq_true_eq] at hh
      obtain ⟨⟨⟨rfl, h1⟩, h2⟩, h3⟩ := hh
      cases h
      exact ⟨_, _, rfl, h1, h2, h3⟩
    · cases h
  · cases h
/-- C(a, b, c) -/
theorem new_ok {D : Wd} {k : Nat} {x : Str} {f : Addr} {fd : FuncData} {ps : List Str} {fn : Nat → FS} {i : IniE} (M : Mk D.C.K D.C.cP f) (hm : D.mg x = some (.ref D.C.cP)) (hb : Binds D.C.K fd ps [])
    (F : FnOk D.P D.w D.C.K D.mg D.base (L2.CX D.P D.w) k f fd ps (spIni D.C fn i)) : FIK D (k + 1) (.hk (hkNew x 3)) (iniF fn i) := fun A hr => ⟨fun X W ex es ms hB hK hc hu tk hmt pl => by
  have e1 : X.prog = D.P := congrArg Bs.prog hB
  have e2 : X.w = D.w := congrArg Bs.w hB
  have e3 : X.K = D.C.K := congrArg Bs.K hB
  have e4 : X.mg = D.mg := congrArg Bs.mg hB
  have e5 : X.base = D.base := congrArg Bs.base hB
  have e6 : X.A = A := congrArg Bs.A hB
  obtain ⟨p, pos, rfl, h1, h2, h3⟩ := hkNew_some hmt
  have hg := h1
  simp only [glB, Bool.and_eq_true, decide_eq_true_eq] at hg
  have hp := pl.pa h3
  have hl := pl.len
  match es, h2, h3, hp, hl with
  | z :: zs, h2, h3, hp, hl =>
      simp only [List.all_cons, Bool.and_eq_true] at h3
      have F' : FnOk X.prog X.w X.K X.mg X.base (L2.CX X.prog X.w) k f fd ps (spIni D.C fn i) := by rw [e1, e2, e3, e4, e5]; exact F
      have mk := pe_make (X := X) (pos := pos) (p := p) (E := E0) (by rw [e3]; exact M) F' (by rw [e6]; exact hr) hg.1 (by rw [e4]; exact hm) (by rw [e3]; exact hb) .nil passL hp (gl_dbg h1) (star_cons h3.1) (star_none h3.2)
      refine PE.imp mk fun σ H Q ⟨F1, L, S, ρ, kk, en, q⟩ => ⟨F1, L, S, ρ, kk, en, ?_⟩
      dsimp only at q
      cases e : ms ρ S with
      | exc y s => rw [e] at q; exact q
      | stuck => rw [e] at q; exact q
      | ok ds S' =>
        rw [e] at q
        intro F2 M2 H2 x2 k2 vs r2 a dx na ndx ne
        simp only [R.bind_ok] at q
        cases ev : iniF fn i ds S' with
        | exc y s =>
          exfalso
          unfold iniF at ev
          split at ev
          · revert ev
            generalize ((evE fn _ _ _).bind _ : R MP.D) = rr
            cases rr <;> (intro ev; cases ev)
          · cases ev
        | stuck => rw [ev] at q; exact False.elim q
        | ok d S2 =>
          rw [ev] at q
          have l3 := hl _ _ _ _ e
          refine ⟨a, dx, vs, F2, M2, H2, S', S2, ds, d, by rw [List.append_nil], ?_, na, ndx, ne, rfl, k2, r2, ev, fun F' L' H' x3 k3 rr => ⟨rfl, q F' L' H' (x2.trans x3) k3 _ rr⟩⟩
          rw [r2.length, l3]
          exact h2
  ⟩
end MP

/-! MP: what the head tells. -/
namespace MP
open PySem PySem.Spec PyProof.Rows L2
def tupKB (K : PySem.W.Frag) (x : Str) (ys : List Str) : Bool := match K.lookup (He.ga K x) with
  | some ⟨.type c, none, .seq its _, _⟩ => decide (c = "tuple") && (decide (its.size ≤ sizeLine) && He.relAll (ys.map V.str) its.toList)
  | _ => false
theorem tupKB_ok {K : PySem.W.Frag} {mg : Str → Option Value} {x : Str} {ys : List Str} (h : tupKB K x ys = true) (hm : mg x = some (.ref (He.ga K x))) : TupK K mg x ys := by
  unfold tupKB at h
  split at h
  · rename_i c its n sl e
    simp only [Bool.and_eq_true, decide_eq_true_eq] at h
    obtain ⟨rfl, h2, h3⟩ := h
    exact ⟨_, _, its, n, hm, e, rfl, rfl, rfl, h2, He.relAll_ok h3⟩
  · cases h
structure Fx (fa : List He.Fa) (fn : List He.DefD) (ex : PySem.W.Frag → Bool) (D : Wd) : Prop where
  t : He.SaysD fa fn D.C.K
  e : ex D.C.K = true
  gl : ∀ x : Str, (He.Fa.glo x).ok D.C.K = true → D.mg x = some (.ref (He.ga D.C.K x))
  fr : ∀ x : Str, (He.Fa.free x).ok D.C.K = true → D.mg x = none
  int : ∀ (x : Str) (i : Int), (He.Fa.int x i).ok D.C.K = true → ∃ t, D.mg x = some (.int i t)
  str : ∀ (x z : Str), (He.Fa.str x z).ok D.C.K = true → ∃ t, D.mg x = some (.str z t)
  cP : D.C.cP = He.ga D.C.K "Program"
theorem all_str {F : Hp} {L : List Addr} {C : Cn} : ∀ {ys : List Str}, ys.all sOk = true → RepAll C F L (ys.map V.str) (ys.map D.str)
  | [], _ => .nil
  | y :: ys, h => by
    simp only [List.all_cons, Bool.and_eq_true] at h
    exact .cons (.str _ h.1) (all_str h.2)
theorem tup_const {D : Wd} {k : Nat} {x : Str} {ys : List Str} (h : TupK D.C.K D.mg x ys) (hy : ys.all sOk = true) (hl : ys.length ≤ 1000) : FIK D k (.hk (hkG x)) (constF (.tup (ys.map .str))) := fun A hr => by
  obtain ⟨p, o, its, n, hm, hk, hc, hdd, hdt, hz, hv⟩ := h.ex
  refine hkG_ok (v := .ref p) hm rfl fun F L => .tup (vs := ys.map V.str) (.inr ⟨o, its, n, hk, hc, hdt, hz, hv⟩) ?_ (all_str hy)
  rw [List.length_map, sizeBIG]
  exact Nat.le_trans hl (by decide)
theorem str_const {D : Wd} {k : Nat} {x z : Str} (h : ∃ t, D.mg x = some (.str z t)) (hz : sOk z = true) : FIK D k (.hk (hkG x)) (constF (.str z)) := fun A hr => by
  obtain ⟨t, h⟩ := h
  exact hkG_ok (v := .str z) h ⟨t, rfl⟩ fun F L => .str _ hz
theorem int_const {D : Wd} {k : Nat} {x : Str} {i : Int} (h : ∃ t, D.mg x = some (.int i t)) : FIK D k (.hk (hkG x)) (constF (.int i)) := fun A hr => by
  obtain ⟨t, h⟩ := h
  exact hkG_ok (v := .int i) h ⟨t, rfl⟩ fun F L => .int _
/-- the law's own call -/
theorem law_sp {C : Cn} {f : FS} {a : Addr} {H : Hp} {ns : List Int} {S' : Sto} {n : Nat} (hn : n ≤ sizeLine) (hl : ns.length ≤ n) (hS : SqL C.K H a (ns.map V.int)) (hO : Only H) (h : f [.scr ns] [] = .ok (.bl true) S') : spD C 1 true f [.ref a] H (fun v _ => v = .bl true) fun _ _ _ => False := by
  refine ⟨rfl, H, [], [], [.scr ns], ⟨fun _ _ h => h, fun _ h => by simp at h, List.nodup_nil, rfl, fun n c h => by simp at h⟩, .cons (.scr hS (Nat.le_trans hl hn)) .nil, ?_⟩
  rw [h]
  intro F' L' H' _ _ v r
  have r : Rep C F' L' v (.bl true) := by simpa [Vok, lvOf, isFr] using r
  cases r
  rfl
/-- the law's end, what may be let out told by the world -/
theorem walkW {l : PySem.W.OpenLaw} {n k : Nat} {q : Program} {loose : List Str} {XP : (Str → Option Value) → Heap → Prop} {YP : World → Heap → Prop} {d : DefRec} {x : Str} (hn : l.most = some n) (hn2 : n ≤ sizeLine) (hdf : d.params.defaults = []) (hr : Room k callerA)
    (F : ∀ (w : World) (mg : Str → Option Value) (fa : Addr) (h : Heap), YP w h → h.Ns mainGlobals mg → mg d.name = some (.ref fa) → ∃ (K : PySem.W.Frag) (fd : FuncData) (sp : Sp), K.In h ∧ (∀ (s : Shared) (u : Value), BindsTo s fd ⟨[u], []⟩ [(x, u)]) ∧
      (∀ (H : Hp) (a : Addr) (ns : List Int), ns.length ≤ n → Only H → SqL K H a (ns.map V.int) → sp [.ref a] H (fun v _ => v = .bl true) fun _ _ _ => False) ∧ ∀ base : Heap, K.In base → base.Ns mainGlobals mg → FnOk l.prog w K mg base (L2.CX l.prog w) k fa fd [x] sp) :
    PySem.W.WalkO q loose XP YP l.row.toRowW d [] (fun f vs => PySem.call f vs) := by
  refine Att.attach_call hn hdf fun w s0 s1 mg mb fa o pm cd doc a vs ns G Y ho hd hcd hmg hobj hints hlen hg => ?_
  obtain ⟨K, fd, sp, KX, hb, hsp, hF⟩ := F w mg fa _ Y G.T.g hmg
  refine law_call KX G.T.g G.T.b G.T.builtins G.T.nolimit hg hobj hints (Nat.le_trans hlen hn2) hr hF hb (fun H hO hS => hsp H a ns hlen hO hS) fun H e s' hx => ?_
  obtain ⟨_, _, _, _, _, _, _, _, _, _, _, _, z⟩ := hx
  exact z
theorem noCX {P : Program} {w : World} (H : Hp) (s : Shared) (e : Value) (s' : Shared) (h : L2.CX P w [] H s (fun _ _ _ => False) e s') : False := by
  obtain ⟨_, _, _, _, _, _, _, _, _, _, _, _, z⟩ := h
  exact z
end MP

/-! MP: the evaluator worked out by simp. -/
namespace MP
open PySem
theorem atI_of {α : Type} {xs : List α} {i : Nat} {x : α} (h : xs[i]? = some x) : L2.atI xs (i : Int) = some x := by
  unfold L2.atI L2.ixN
  have := (List.getElem?_eq_some_iff.mp h).1
  rw [if_pos (by omega), if_pos (by omega)]
  simpa using h
theorem atI_0 {α : Type} (x : α) (xs : List α) : L2.atI (x :: xs) 0 = some x := atI_of (i := 0) rfl
theorem atI_1 {α : Type} (x y : α) (xs : List α) : L2.atI (x :: y :: xs) 1 = some y := atI_of (i := 1) rfl
theorem atI_2 {α : Type} (x y z : α) (xs : List α) : L2.atI (x :: y :: z :: xs) 2 = some z := atI_of (i := 2) rfl
theorem atI_3 {α : Type} (x y z w : α) (xs : List α) : L2.atI (x :: y :: z :: w :: xs) 3 = some w := atI_of (i := 3) rfl
theorem atI_pos {α : Type} {xs : List α} {i : Int} (h0 : 0 ≤ i) (h : i < xs.length) : ∃ x, L2.atI xs i = some x ∧ xs[i.toNat]? = some x := by
  obtain ⟨n, rfl⟩ := Int.eq_ofNat_of_zero_le h0
  have h' : n < xs.length := by omega
  exact ⟨xs[n], atI_of (List.getElem?_eq_getElem h'), by simp⟩
theorem ixN_pos {n : Nat} {i : Int} (h0 : 0 ≤ i) (h : i < n) : L2.ixN n i = some i.toNat := by
  unfold L2.ixN
  rw [if_pos h0, if_pos h]
section
variable (i j : Int) (x y : Str) (xs ys : List D) (a b : D) (s : Sto) (n : Nat)
theorem s_len1 : dBlt .len [.lst xs] = some (.int xs.length) := rfl
theorem s_len2 : dBlt .len [.tup xs] = some (.int xs.length) := rfl
theorem s_len3 : dBlt .len [.str x] = some (.int x.length) := rfl
theorem s_int1 : dBlt .int [.int i] = some (.int i) := rfl
theorem s_int2 (b : Bool) : dBlt .int [.bl b] = some (.int (if b then 1 else 0)) := rfl
theorem s_list1 : dBlt .list [.lst xs] = some (.lst xs) := rfl
theorem s_list2 : dBlt .list [.tup xs] = some (.lst xs) := rfl
theorem s_list3 (ns : List Int) : dBlt .list [.scr ns] = some (.lst (ns.map .int)) := rfl
theorem s_tup1 : dBlt .tuple [.lst xs] = some (.tup xs) := rfl
theorem s_tup2 : dBlt .tuple [.tup xs] = some (.tup xs) := rfl
theorem s_max : dBlt .max2 [.int i, .int j] = some (.int (if j > i then j else i)) := rfl
theorem s_add1 : dBin .add (.int i) (.int j) = some (.int (i + j)) := rfl
theorem s_add2 : dBin .add (.str x) (.str y) = MP.mkStr (x ++ y) := rfl
theorem s_add3 : dBin .add (.lst xs) (.lst ys) = mkLst (xs ++ ys) := rfl
theorem s_add4 : dBin .add (.tup xs) (.tup ys) = mkTup (xs ++ ys) := rfl
theorem s_sub : dBin .sub (.int i) (.int j) = some (.int (i - j)) := rfl
theorem s_mul : dBin .mul (.int i) (.int j) = if small i || small j then some (.int (i * j)) else none := rfl
theorem s_mod : dBin .mod (.int i) (.int j) = if decide (0 < j) then some (.int (i % j)) else none := rfl
theorem s_fdiv : dBin .fdiv (.int i) (.int j) = if decide (0 < j) && decide (j < 1073741824) then some (.int (i / j)) else none := rfl
theorem s_lt : dCmp .lt (.int i) (.int j) = some (decide (i < j)) := rfl
theorem s_le : dCmp .le (.int i) (.int j) = some (decide (i ≤ j)) := rfl
theorem s_gt : dCmp .gt (.int i) (.int j) = some (decide (j < i)) := rfl
theorem s_ge : dCmp .ge (.int i) (.int j) = some (decide (j ≤ i)) := rfl
theorem s_ix1 : dIdx (.tup xs) (.int i) = L2.atI xs i := rfl
theorem s_ix2 : dIdx (.lst xs) (.int i) = L2.atI xs i := rfl
theorem s_cget : cGet s a (.int i) = (cellAt s a).bind fun xs => L2.atI xs i := rfl
theorem s_clen : cLen s a = (cellAt s a).map fun xs => .int xs.length := rfl
theorem s_ccat : cCat s a (.lst ys) = (cellAt s a).bind fun xs => mkLst (xs ++ ys) := rfl
theorem s_csetL : cSet s (.ref n) (.int i) b = (cellAt s (.ref n)).bind fun xs => (L2.ixN xs.length i).map fun j => s.set n (.lst (xs.set j b)) := rfl
theorem s_cell0 (c : Sto) : cellAt (.lst xs :: c) (.ref 0) = some xs := rfl
theorem s_cell1 (c : Sto) (d : Cell) : cellAt (d :: .lst xs :: c) (.ref 1) = some xs := rfl
theorem s_truth (b : Bool) : (D.bl b).truth = some b := rfl
theorem s_mkL (h : xs.length ≤ BIG) : mkLst xs = some (.lst xs) := if_pos h
theorem s_mkT (h : xs.length ≤ BIG) : mkTup xs = some (.tup xs) := if_pos h
theorem s_bind {α β : Type} (a : α) (f : α → Option β) : (some a).bind f = f a := rfl
theorem s_map {α β : Type} (a : α) (f : α → β) : (some a).map f = some (f a) := rfl
theorem s_pow18 : dBin .pow (.int 10) (.int 18) = some (.int 1000000000000000000) := by
  show (if decide ((0 : Int) ≤ 18) && decide ((18 : Int) ≤ 1000000) && decide ((10 : Int).natAbs < 2 ^ 64) then some (D.int (10 ^ (18 : Int).toNat)) else none) = _
  rw [if_pos (by decide)]
  rfl
end
section
variable (fn : Nat → FS) (ρ : Env') (s : Sto)
/-- a for, its turns closed -/
def forS (fn : Nat → FS) (tg : Tg) (body : List St) (ds : List D) (ρ : Env') (s : Sto) : RS := forLoop (fun d ρ s => RS.of (R.of (bindTg ρ tg d) s) ρ fun ρ' s => evSs fn ρ' body s) ds ρ s
def compS (fn : Nat → FS) (own : List Nat) (tg : Tg) (ifs : Option E) (elt : E) (ρ : Env') (ds : List D) (s : Sto) : R (List D) := compLoop (fun d s => (R.of (bindTg (wipeE ρ own) tg d) s).bind fun ρ' s => (evIf fn ρ' ifs s).bind fun t s => if t then (evE fn ρ' elt s).bind fun e s => .ok (some e) s else .ok none s) ds s
def dcompS (fn : Nat → FS) (own : List Nat) (tg : Tg) (key val : E) (ρ : Env') (ds : List D) (s : Sto) : R (List (D × D)) := dcompLoop (fun d s => (R.of (bindTg (wipeE ρ own) tg d) s).bind fun ρ' s => (evE fn ρ' key s).bind fun k s => (evE fn ρ' val s).bind fun v s => .ok (k, v) s) [] ds s
theorem e_lit (d : D) : evE fn ρ (.lit d) s = (.ok d s) := rfl
theorem e_glob (u0 : Str) (d : D) : evE fn ρ (.glob u0 d) s = (.ok d s) := rfl
theorem e_var (i : Nat) : evE fn ρ (.var i) s = (R.of (immAt ρ i) s) := rfl
theorem e_pk (i : Nat) : evE fn ρ (.pk i) s = (R.of (pkAt ρ i) s) := rfl
theorem e_tup (es : List E) : evE fn ρ (.tup es) s = ((evEs fn ρ es s).bind fun ds s => R.of (mkTup ds) s) := rfl
theorem e_lst (es : List E) : evE fn ρ (.lst es) s = ((evEs fn ρ es s).bind fun ds s => R.of (mkLst ds) s) := rfl
theorem e_bin (o : BO) (a : E) (b : E) : evE fn ρ (.bin o a b) s = ((evE fn ρ a s).bind fun x s => (evE fn ρ b s).bind fun y s => R.of (dBin o x y) s) := rfl
theorem e_star (u0 : E) : evE fn ρ (.star u0) s = (.stuck) := rfl
theorem e_neg (a : E) : evE fn ρ (.neg a) s = ((evE fn ρ a s).bind fun x s => match x with | .int i => .ok (.int (-i)) s | _ => .stuck) := rfl
theorem e_cmp (o : CO) (a : E) (b : E) : evE fn ρ (.cmp o a b) s = ((evE fn ρ a s).bind fun x s => (evE fn ρ b s).bind fun y s => R.of ((dCmp o x y).map .bl) s) := rfl
theorem e_isN (n : Bool) (a : E) : evE fn ρ (.isN n a) s = ((evE fn ρ a s).bind fun x s => .ok (.bl (isNb n x)) s) := rfl
theorem e_chain (o : CO) (p : CO) (a : E) (b : E) (c : E) : evE fn ρ (.chain o p a b c) s = ((evE fn ρ a s).bind fun x s => (evE fn ρ b s).bind fun y s => (R.of (dCmp o x y) s).bind fun t s =>
         if t then (evE fn ρ c s).bind fun z s => R.of ((dCmp p y z).map .bl) s else .ok (.bl false) s) := rfl
theorem e_and (a : E) (b : E) : evE fn ρ (.and a b) s = ((evE fn ρ a s).bind fun x s => (R.of x.truth s).bind fun t s => if t then evE fn ρ b s else .ok x s) := rfl
theorem e_or (a : E) (b : E) : evE fn ρ (.or a b) s = ((evE fn ρ a s).bind fun x s => (R.of x.truth s).bind fun t s => if t then .ok x s else evE fn ρ b s) := rfl
theorem e_not (a : E) : evE fn ρ (.not a) s = ((evE fn ρ a s).bind fun x s => R.of (dNot x) s) := rfl
theorem e_ite (c : E) (a : E) (b : E) : evE fn ρ (.ite c a b) s = ((evE fn ρ c s).bind fun x s => (R.of x.truth s).bind fun t s => if t then evE fn ρ a s else evE fn ρ b s) := rfl
theorem e_idx (a : E) (i : E) : evE fn ρ (.idx a i) s = ((evE fn ρ a s).bind fun x s => (evE fn ρ i s).bind fun y s => R.of (dIdx x y) s) := rfl
theorem e_slice (a : E) (lo : Option E) (hi : Option E) : evE fn ρ (.slice a lo hi) s = ((evE fn ρ a s).bind fun x s => (evO fn ρ lo s).bind fun l s => (evO fn ρ hi s).bind fun h s => R.of (dSlice x l h) s) := rfl
theorem e_fld (f : Fld) (a : E) : evE fn ρ (.fld f a) s = ((evE fn ρ a s).bind fun x s => R.of (dFld f x) s) := rfl
theorem e_call (f : Nat) (es : List E) : evE fn ρ (.call f es) s = ((evEs fn ρ es s).bind fun ds s => fn f ds s) := rfl
theorem e_blt (b : Blt) (es : List E) : evE fn ρ (.blt b es) s = ((evEs fn ρ es s).bind fun ds s => R.of (dBlt b ds) s) := rfl
theorem e_isi (ts : List Ty) (a : E) : evE fn ρ (.isi ts a) s = ((evE fn ρ a s).bind fun x s => R.of (isTys ts x) s) := rfl
theorem e_join (a : E) (e : E) : evE fn ρ (.join a e) s = ((evE fn ρ a s).bind fun x s => (R.of (asStr x) s).bind fun z s => (evE fn ρ e s).bind fun y s => R.of (dJoin z y) s) := rfl
theorem e_comp (own : List Nat) (tg : Tg) (src : Src) (ifs : Option E) (elt : E) : evE fn ρ (.comp own tg src ifs elt) s = ((evSrc fn ρ src s).bind fun ds s => (compS fn own tg ifs elt ρ ds s).bind fun es s => .ok (.lst es) s) := rfl
theorem e_dcomp (own : List Nat) (tg : Tg) (src : Src) (key : E) (val : E) : evE fn ρ (.dcomp own tg src key val) s = ((evSrc fn ρ src s).bind fun ds s => (dcompS fn own tg key val ρ ds s).bind fun es s => .ok (.dic es) s) := rfl
theorem e_dic0  : evE fn ρ (.dic0) s = (.ok (.dic []) s) := rfl
theorem e_cidx (u0 : Str) (ys : List Str) (a : E) : evE fn ρ (.cidx u0 ys a) s = ((evE fn ρ a s).bind fun x s => R.of (dCidx ys x) s) := rfl
theorem e_cell (a : E) : evE fn ρ (.cell a) s = ((evE fn ρ a s).bind newCell) := rfl
theorem e_cget (a : E) (i : E) : evE fn ρ (.cget a i) s = ((evE fn ρ a s).bind fun x s => (evE fn ρ i s).bind fun y s => R.of (cGet s x y) s) := rfl
theorem e_clen (a : E) : evE fn ρ (.clen a) s = ((evE fn ρ a s).bind fun x s => R.of (cLen s x) s) := rfl
theorem e_ccat (a : E) (b : E) : evE fn ρ (.ccat a b) s = ((evE fn ρ a s).bind fun x s => (evE fn ρ b s).bind fun y s => R.of (cCat s x y) s) := rfl
theorem v_asg (i : Nat) (e : E) : evS fn ρ (.asg i e) s = (RS.of (evE fn ρ e s) ρ fun d s => .nx (setI ρ i d) s) := rfl
theorem v_asgO (i : Nat) (e : E) : evS fn ρ (.asgO i e) s = (RS.of (evE fn ρ e s) ρ fun d s => if isFr d then .nx (setO ρ i d) s else .stuck) := rfl
theorem v_unp (is : List Nat) (e : E) : evS fn ρ (.unp is e) s = (RS.of (evE fn ρ e s) ρ fun d s => RS.of (R.of (bindTg ρ (.tup is) d) s) ρ fun ρ' s => .nx ρ' s) := rfl
theorem v_par (is : List (Bool × Nat)) (es : List E) : evS fn ρ (.par is es) s = (RS.of (evEs fn ρ es s) ρ fun ds s => RS.of (R.of (setPar ρ is ds) s) ρ fun ρ' s => .nx ρ' s) := rfl
theorem v_setI (i : Nat) (k : E) (e : E) : evS fn ρ (.setI i k e) s = (RS.of (R.of (lstOwn ρ i) s) ρ fun o s => RS.of (evE fn ρ e s) ρ fun d s => RS.of (evE fn ρ k s) ρ fun x s => RS.of (R.of (dSetI o x d) s) ρ fun o s => .nx (setO ρ i o) s) := rfl
theorem v_setK (i : Nat) (k : E) (e : E) : evS fn ρ (.setK i k e) s = (RS.of (R.of (dicOwn ρ i) s) ρ fun o s => RS.of (evE fn ρ e s) ρ fun d s => RS.of (evE fn ρ k s) ρ fun x s => RS.of (R.of (dSetK o x d) s) ρ fun o s => .nx (setO ρ i o) s) := rfl
theorem v_aug (i : Nat) (o : BO) (e : E) : evS fn ρ (.aug i o e) s = (RS.of (R.of (immAt ρ i) s) ρ fun x s => RS.of (evE fn ρ e s) ρ fun d s => RS.of (R.of (dAug o x d) s) ρ fun r s => .nx (setI ρ i r) s) := rfl
theorem v_app (i : Nat) (e : E) : evS fn ρ (.app i e) s = (RS.of (R.of (lstOwn ρ i) s) ρ fun xs s => RS.of (evE fn ρ e s) ρ fun d s => RS.of (R.of (dApp xs d) s) ρ fun o s => .nx (setO ρ i o) s) := rfl
theorem v_exp (e : E) : evS fn ρ (.exp e) s = (RS.of (evE fn ρ e s) ρ fun _ s => .nx ρ s) := rfl
theorem v_ret (e : E) : evS fn ρ (.ret e) s = (RS.of (evE fn ρ e s) ρ fun d s => .ret d s) := rfl
theorem v_retO (i : Nat) : evS fn ρ (.retO i) s = (RS.of (R.of (ownAt ρ i) s) ρ fun d s => .ret d s) := rfl
theorem v_retN  : evS fn ρ (.retN) s = (.ret .non s) := rfl
theorem v_ite (c : E) (a : List St) (b : List St) : evS fn ρ (.ite c a b) s = (RS.of (evE fn ρ c s) ρ fun x s => RS.of (R.of x.truth s) ρ fun t s => if t then evSs fn ρ a s else evSs fn ρ b s) := rfl
theorem v_for_ (tg : Tg) (src : Src) (body : List St) : evS fn ρ (.for_ tg src body) s = (RS.of (evSrc fn ρ src s) ρ fun ds s => forS fn tg body ds ρ s) := rfl
theorem v_pass  : evS fn ρ (.pass) s = (.nx ρ s) := rfl
theorem v_never  : evS fn ρ (.never) s = (.stuck) := rfl
theorem v_frz (i : Nat) (st : St) : evS fn ρ (.frz i st) s = (match ownAt ρ i with
       | some d => evS fn (setI ρ i d) st s
       | none => evS fn ρ st s) := rfl
theorem v_cset (a : E) (k : E) (e : E) : evS fn ρ (.cset a k e) s = (RS.of (evE fn ρ e s) ρ fun d s => RS.of (evE fn ρ a s) ρ fun x s => RS.of (evE fn ρ k s) ρ fun y s => RS.of (R.of (cSet s x y d) s) ρ fun s' _ => .nx ρ s') := rfl
end

theorem s_eqI (i j : Int) : dCmp .eq (.int i) (.int j) = some (decide (i = j)) := by simp [dCmp, D.plain, D.eqv]; rw [Bool.eq_iff_iff]; simp
theorem s_neI (i j : Int) : dCmp .ne (.int i) (.int j) = some (!decide (i = j)) := by simp [dCmp, D.plain, D.eqv]; rw [Bool.eq_iff_iff]; simp
theorem s_eqS (i j : Str) : dCmp .eq (.str i) (.str j) = some (decide (i = j)) := by simp [dCmp, D.plain, D.eqv]; rw [Bool.eq_iff_iff]; simp
theorem s_neS (i j : Str) : dCmp .ne (.str i) (.str j) = some (!decide (i = j)) := by simp [dCmp, D.plain, D.eqv]; rw [Bool.eq_iff_iff]; simp
theorem nc0 : @Nat.cast Int instNatCastInt 0 = 0 := rfl
theorem nc1 : @Nat.cast Int instNatCastInt 1 = 1 := rfl
theorem nc2 : @Nat.cast Int instNatCastInt 2 = 2 := rfl
theorem nc3 : @Nat.cast Int instNatCastInt 3 = 3 := rfl
theorem nc4 : @Nat.cast Int instNatCastInt 4 = 4 := rfl
theorem nc5 : @Nat.cast Int instNatCastInt 5 = 5 := rfl
theorem nc6 : @Nat.cast Int instNatCastInt 6 = 6 := rfl
theorem nc7 : @Nat.cast Int instNatCastInt 7 = 7 := rfl
theorem nc8 : @Nat.cast Int instNatCastInt 8 = 8 := rfl
theorem nc9 : @Nat.cast Int instNatCastInt 9 = 9 := rfl
theorem s_it1 (xs : List D) : items (.lst xs) = some xs := rfl
theorem s_it2 (xs : List D) : items (.tup xs) = some xs := rfl
theorem s_it3 (ns : List Int) : items (.scr ns) = some (ns.map .int) := rfl
/-- it comes to a value -/
def Rs {α : Type} (r : R α) (P : α → Sto → Prop) : Prop := ∃ a s, r = .ok a s ∧ P a s
theorem Rs.ok {α : Type} {a : α} {s : Sto} {P : α → Sto → Prop} (h : P a s) : Rs (.ok a s) P := ⟨a, s, rfl, h⟩
theorem Rs.bind {α β : Type} {r : R α} {f : α → Sto → R β} {P : α → Sto → Prop} {Q : β → Sto → Prop} (h : Rs r P) (g : ∀ a s, P a s → Rs (f a s) Q) : Rs (r.bind f) Q := by
  obtain ⟨a, s, rfl, p⟩ := h
  exact g a s p
theorem Rs.imp {α : Type} {r : R α} {P Q : α → Sto → Prop} (h : Rs r P) (g : ∀ a s, P a s → Q a s) : Rs r Q := by
  obtain ⟨a, s, e, p⟩ := h
  exact ⟨a, s, e, g a s p⟩
theorem Rs.of {α : Type} {o : Option α} {s : Sto} {a : α} {P : α → Sto → Prop} (e : o = some a) (h : P a s) : Rs (R.of o s) P := ⟨a, s, by rw [e]; rfl, h⟩
/-- a statement's run: on with N, or back with P -/
def Rt (r : RS) (N : Env' → Sto → Prop) (P : D → Sto → Prop) : Prop := match r with
  | .nx ρ s => N ρ s
  | .ret d s => P d s
  | _ => False
theorem Rt.nx {ρ : Env'} {s : Sto} {N : Env' → Sto → Prop} {P : D → Sto → Prop} (h : N ρ s) : Rt (.nx ρ s) N P := h
theorem Rt.ret {d : D} {s : Sto} {N : Env' → Sto → Prop} {P : D → Sto → Prop} (h : P d s) : Rt (.ret d s) N P := h
theorem Rt.of {α : Type} {r : R α} {ρ : Env'} {f : α → Sto → RS} {Q : α → Sto → Prop} {N : Env' → Sto → Prop} {P : D → Sto → Prop} (h : Rs r Q) (g : ∀ a s, Q a s → Rt (f a s) N P) : Rt (RS.of r ρ f) N P := by
  obtain ⟨a, s, rfl, q⟩ := h
  exact g a s q
theorem Rt.seq {r : RS} {f : Env' → Sto → RS} {N M : Env' → Sto → Prop} {P : D → Sto → Prop} (h : Rt r M P) (g : ∀ ρ s, M ρ s → Rt (f ρ s) N P) : Rt (r.seq f) N P := by
  cases r with
  | nx ρ s => exact g ρ s h
  | ret d s => exact h
  | exc x ρ s => exact h.elim
  | stuck => exact h.elim
theorem Rt.imp {r : RS} {N M : Env' → Sto → Prop} {P Q : D → Sto → Prop} (h : Rt r M P) (g : ∀ ρ s, M ρ s → N ρ s) (g' : ∀ d s, P d s → Q d s) : Rt r N Q := by
  cases r with
  | nx ρ s => exact g ρ s h
  | ret d s => exact g' d s h
  | exc x ρ s => exact h.elim
  | stuck => exact h.elim
/-- a def by its body's run -/
theorem def_run {fn : Nat → FS} {n : Nat} {body : List St} {ds : List D} {s : Sto} {P : D → Sto → Prop} (h : Rt (evSs fn (startE n ds) body s) (fun _ s => P .non s) P) : Rs (evDef fn n body ds s) P := by
  unfold evDef
  cases e : evSs fn (startE n ds) body s with
  | nx ρ s => rw [e] at h; exact ⟨_, _, rfl, h⟩
  | ret d s => rw [e] at h; exact ⟨_, _, rfl, h⟩
  | exc x ρ s => rw [e] at h; exact h.elim
  | stuck => rw [e] at h; exact h.elim
/-- a for by an invariant over what is left -/
theorem forS_run {fn : Nat → FS} {tg : Tg} {body : List St} {P : D → Sto → Prop} (I : List D → Env' → Sto → Prop) (turn : ∀ d ds ρ s, I (d :: ds) ρ s → ∃ ρ', bindTg ρ tg d = some ρ' ∧ Rt (evSs fn ρ' body s) (I ds) P) : ∀ {ds : List D} {ρ : Env'} {s : Sto}, I ds ρ s → Rt (forS fn tg body ds ρ s) (I []) P
  | [], ρ, s, h => h
  | d :: ds, ρ, s, h => by
    obtain ⟨ρ', e, q⟩ := turn d ds ρ s h
    unfold forS
    simp only [forLoop, e, R.of_some, RS.of_ok]
    exact Rt.seq q fun ρ2 s2 h2 => forS_run I turn h2
/-- a list comprehension, item by item -/
theorem compS_run {fn : Nat → FS} {own : List Nat} {tg : Tg} {ifs : Option E} {elt : E} {ρ : Env'} {s : Sto} (g : D → Option D) : ∀ {ds : List D}, (∀ d ∈ ds, ∃ ρ', bindTg (wipeE ρ own) tg d = some ρ' ∧ ∃ t, evIf fn ρ' ifs s = .ok t s ∧ (if t = true then ∃ e, evE fn ρ' elt s = .ok e s ∧ g d = some e else g d = none)) → compS fn own tg ifs elt ρ ds s = .ok (ds.filterMap g) s
  | [], _ => rfl
  | d :: ds, h => by
    have ih := compS_run (ifs := ifs) (elt := elt) (ρ := ρ) (s := s) (own := own) (tg := tg) (fn := fn) g fun x hx => h x (List.mem_cons_of_mem d hx)
    obtain ⟨ρ', e, t, e2, e3⟩ := h d List.mem_cons_self
    unfold compS at ih ⊢
    simp only [compLoop, e, R.of_some, R.bind_ok, e2]
    cases t with
    | true =>
      simp only [if_true] at e3
      obtain ⟨y, e4, e5⟩ := e3
      simp only [if_true, e4, R.bind_ok, R.nox_ok, ih, List.filterMap_cons, e5]
    | false =>
      simp only [Bool.false_eq_true, if_false] at e3
      simp only [Bool.false_eq_true, if_false, R.nox_ok, R.bind_ok, ih, List.filterMap_cons, e3]
/-- a turn of a for -/
theorem forS_step {fn : Nat → FS} {tg : Tg} {body : List St} {d : D} {ds : List D} {ρ ρ' ρ2 : Env'} {s s2 : Sto} (h1 : bindTg ρ tg d = some ρ') (h2 : evSs fn ρ' body s = .nx ρ2 s2) : forS fn tg body (d :: ds) ρ s = forS fn tg body ds ρ2 s2 := by
  unfold forS
  simp only [forLoop, h1, R.of_some, RS.of_ok, h2, RS.seq_nx]
end MP

namespace Gk15
open PySem PySem.Spec PyProof.Rows L2 MP
def top (i : Nat) : Stmt := PySem.Challenge.pw_keptback_k15_whole_tables_added.main.body.getD i (.Pass ⟨0, 0, 0, 0⟩)
def tk : List (Str × List Str) := [("COLUMNS", ["x", "y"])]
/-! _law_mix -/
abbrev s_law_mix : Stmt := top 37
def N_law_mix : List Str := ["_law_script", "_law_seed", "_law_state", "_law_cell"]
def i_law_mix : List FI := []
def b_law_mix : List MP.St := [.asg 2 (.var 1),
  .for_ (.one 3) (.val (.var 0)) [.asg 2 (.bin .mod (.blt .int [.bin .add (.bin .add (.bin .mul (.var 2) (.lit (.int 48271))) (.bin .mod (.blt .int [.var 3]) (.lit (.int 2147483629)))) (.lit (.int 1))]) (.lit (.int 2147483647)))],
  .ret (.cell (.lst [.var 2, .cell (.blt .list [.var 0]), .lit (.int 0)]))]
theorem c_law_mix : chkSs (gmOf N_law_mix (defScope s_law_mix) i_law_mix tk) (lvOf false) b_law_mix (defBody s_law_mix) = true := by decide +kernel
theorem sc_law_mix : FnScope N_law_mix ["_law_script", "_law_seed"] (defScope s_law_mix) := ⟨rfl, rfl, rfl, by decide +kernel, rfl, by decide +kernel, by decide +kernel⟩
def d_law_mix : He.DefD := ⟨("_law_mix", none), "_law_mix", "_law_mix", defArgs s_law_mix, defBody s_law_mix, defScope s_law_mix, [], []⟩
/-! _law_next -/
abbrev s_law_next : Stmt := top 38
def N_law_next : List Str := ["_law_h", "_law_cap", "_law_cell"]
def i_law_next : List FI := []
def b_law_next : List MP.St := [.asg 2 (.idx (.ccat (.cget (.var 0) (.lit (.int 1))) (.lst [.lit (.int 0)])) (.bin .mod (.blt .int [.cget (.var 0) (.lit (.int 2))]) (.blt .max2 [.lit (.int 1), .clen (.cget (.var 0) (.lit (.int 1)))]))),
  .ite (.cmp .ge (.var 2) (.bin .pow (.lit (.int 10)) (.lit (.int 18)))) [.cset (.cget (.var 0) (.lit (.int 1))) (.bin .mod (.blt .int [.cget (.var 0) (.lit (.int 2))]) (.clen (.cget (.var 0) (.lit (.int 1))))) (.bin .fdiv (.var 2) (.var 1)),
  .ret (.bin .mod (.blt .int [.var 2]) (.var 1))] [],
  .cset (.var 0) (.lit (.int 0)) (.bin .mod (.blt .int [.bin .add (.bin .add (.bin .mul (.cget (.var 0) (.lit (.int 0))) (.lit (.int 48271))) (.bin .mul (.var 2) (.lit (.int 69621)))) (.lit (.int 11))]) (.lit (.int 2147483647))),
  .cset (.var 0) (.lit (.int 2)) (.bin .add (.cget (.var 0) (.lit (.int 2))) (.lit (.int 1))),
  .ret (.bin .mod (.blt .int [.bin .fdiv (.cget (.var 0) (.lit (.int 0))) (.lit (.int 7))]) (.var 1))]
theorem c_law_next : chkSs (gmOf N_law_next (defScope s_law_next) i_law_next tk) (lvOf true) b_law_next (defBody s_law_next) = true := by decide +kernel
theorem sc_law_next : FnScope N_law_next ["_law_h", "_law_cap"] (defScope s_law_next) := ⟨rfl, rfl, rfl, by decide +kernel, rfl, by decide +kernel, by decide +kernel⟩
def d_law_next : He.DefD := ⟨("_law_next", none), "_law_next", "_law_next", defArgs s_law_next, defBody s_law_next, defScope s_law_next, [], []⟩
/-! _law_pick -/
abbrev s_law_pick : Stmt := top 39
def N_law_pick : List Str := ["_law_h", "_law_things"]
def i_law_pick : List FI := [.fn "_law_next" 2 true]
def b_law_pick : List MP.St := [.ret (.idx (.var 1) (.call 0 [.var 0, .blt .len [.var 1]]))]
theorem c_law_pick : chkSs (gmOf N_law_pick (defScope s_law_pick) i_law_pick tk) (lvOf false) b_law_pick (defBody s_law_pick) = true := by decide +kernel
theorem sc_law_pick : FnScope N_law_pick ["_law_h", "_law_things"] (defScope s_law_pick) := ⟨rfl, rfl, rfl, by decide +kernel, rfl, by decide +kernel, by decide +kernel⟩
def d_law_pick : He.DefD := ⟨("_law_pick", none), "_law_pick", "_law_pick", defArgs s_law_pick, defBody s_law_pick, defScope s_law_pick, [], []⟩
/-! _law_worth -/
abbrev s_law_worth : Stmt := top 40
def N_law_worth : List Str := ["_law_h", "_law_word", "_law_scope"]
def i_law_worth : List FI := [.fn "_law_next" 2 true, .fn "_law_pick" 2 false]
def b_law_worth : List MP.St := [.ite (.cmp .eq (.call 0 [.var 0, .lit (.int 4)]) (.lit (.int 0))) [.ret (.idx (.lst [.lit (.int 0), .lit (.int 1), .neg (.lit (.int 1)), .lit (.int 2), .lit (.int 5), .neg (.lit (.int 9)), .lit (.int 0)]) (.call 0 [.var 0, .lit (.int 7)]))] [],
  .par [(false, 1), (false, 2)] [.idx (.lst [.lit (.str "sum"), .lit (.str "sum"), .lit (.str "count")]) (.call 0 [.var 0, .lit (.int 3)]), .idx (.lst [.lit (.str "all"), .lit (.str "same"), .lit (.str "ahead")]) (.call 0 [.var 0, .lit (.int 3)])],
  .ret (.tup [.var 1, .call 1 [.var 0, .lst [.lit (.str "x"), .lit (.str "y")]], .var 2, .cmp .eq (.call 0 [.var 0, .lit (.int 3)]) (.lit (.int 0))])]
theorem c_law_worth : chkSs (gmOf N_law_worth (defScope s_law_worth) i_law_worth tk) (lvOf false) b_law_worth (defBody s_law_worth) = true := by decide +kernel
theorem sc_law_worth : FnScope N_law_worth ["_law_h"] (defScope s_law_worth) := ⟨rfl, rfl, rfl, by decide +kernel, rfl, by decide +kernel, by decide +kernel⟩
def d_law_worth : He.DefD := ⟨("_law_worth", none), "_law_worth", "_law_worth", defArgs s_law_worth, defBody s_law_worth, defScope s_law_worth, [], []⟩
/-! _law_steps -/
abbrev s_law_steps : Stmt := top 41
def N_law_steps : List Str := ["_law_h", "_law_most", "_law_found", "_law_k", "_law_words", "_law_word", "_law_step"]
def i_law_steps : List FI := [.fn "_law_next" 2 true, .fn "_law_pick" 2 false, .fn "_law_worth" 1 false]
def b_law_steps : List MP.St := [.asgO 2 (.lst []),
  .for_ (.one 3) (.rng [.call 0 [.var 0, .bin .add (.var 1) (.lit (.int 1))]]) [.asg 4 (.lst [.lit (.str "fill"), .lit (.str "less"), .lit (.str "put"), .lit (.str "add"), .lit (.str "fill"), .lit (.str "times")]),
  .asg 5 (.call 1 [.var 0, .var 4]),
  .ite (.and (.cmp .eq (.var 5) (.lit (.str "times"))) (.cmp .ne (.comp [6] (.one 6) (.val (.pk 2)) (some (.cmp .eq (.idx (.var 6) (.lit (.int 0))) (.lit (.str "times")))) (.var 6)) (.lst []))) [.asg 5 (.lit (.str "less"))] [],
  .ite (.cmp .eq (.var 5) (.lit (.str "add"))) [.app 2 (.tup [.var 5, .call 1 [.var 0, .lst [.lit (.str "x"), .lit (.str "y")]], .call 1 [.var 0, .lst [.lit (.str "x"), .lit (.str "y")]]])] [.app 2 (.tup [.var 5, .call 1 [.var 0, .lst [.lit (.str "x"), .lit (.str "y")]], .call 2 [.var 0]])]],
  .retO 2]
theorem c_law_steps : chkSs (gmOf N_law_steps (defScope s_law_steps) i_law_steps tk) (lvOf true) b_law_steps (defBody s_law_steps) = true := by decide +kernel
theorem sc_law_steps : FnScope N_law_steps ["_law_h", "_law_most"] (defScope s_law_steps) := ⟨rfl, rfl, rfl, by decide +kernel, rfl, by decide +kernel, by decide +kernel⟩
def d_law_steps : He.DefD := ⟨("_law_steps", none), "_law_steps", "_law_steps", defArgs s_law_steps, defBody s_law_steps, defScope s_law_steps, [], []⟩
/-! _law_parts -/
abbrev s_law_parts : Stmt := top 42
def N_law_parts : List Str := ["_law_h", "_law_most"]
def i_law_parts : List FI := [.fn "_law_pick" 2 false, .fn "_law_steps" 2 true]
def b_law_parts : List MP.St := [.ret (.tup [.call 0 [.var 0, .lst [.lit (.str "a"), .lit (.str "b"), .lit (.str "c"), .lit (.str "ab"), .lit (.str "ac"), .lit (.str "bc")]], .call 1 [.var 0, .var 1], .call 0 [.var 0, .lst [.lit (.str "x"), .lit (.str "y"), .lit (.str "xy")]]])]
theorem c_law_parts : chkSs (gmOf N_law_parts (defScope s_law_parts) i_law_parts tk) (lvOf true) b_law_parts (defBody s_law_parts) = true := by decide +kernel
theorem sc_law_parts : FnScope N_law_parts ["_law_h", "_law_most"] (defScope s_law_parts) := ⟨rfl, rfl, rfl, by decide +kernel, rfl, by decide +kernel, by decide +kernel⟩
def d_law_parts : He.DefD := ⟨("_law_parts", none), "_law_parts", "_law_parts", defArgs s_law_parts, defBody s_law_parts, defScope s_law_parts, [], []⟩
/-! check_held -/
abbrev s_check_held : Stmt := top 27
def N_check_held : List Str := ["held", "mark"]
def i_check_held : List FI := [.hk (hkG "MARKS")]
def b_check_held : List MP.St := [.ite (.or (.not (.isi [.str] (.var 0))) (.or (.not (.chain .le .le (.lit (.int 1)) (.blt .len [.var 0]) (.lit (.int 2)))) (.not (.blt .all [.comp [1] (.one 1) (.val (.var 0)) none (.cmp .in_ (.var 1) (.call 0 []))])))) [.never] [],
  .ite (.and (.cmp .eq (.blt .len [.var 0]) (.lit (.int 2))) (.cmp .ge (.idx (.var 0) (.lit (.int 0))) (.idx (.var 0) (.lit (.int 1))))) [.never] []]
theorem c_check_held : chkSs (gmOf N_check_held (defScope s_check_held) i_check_held tk) (lvOf true) b_check_held (defBody s_check_held) = true := by decide +kernel
theorem sc_check_held : FnScope N_check_held ["held"] (defScope s_check_held) := ⟨rfl, rfl, rfl, by decide +kernel, rfl, by decide +kernel, by decide +kernel⟩
def d_check_held : He.DefD := ⟨("check_held", none), "check_held", "check_held", defArgs s_check_held, defBody s_check_held, defScope s_check_held, [], []⟩
/-! is_word -/
abbrev s_is_word : Stmt := top 24
def N_is_word : List Str := ["thing", "words"]
def i_is_word : List FI := []
def b_is_word : List MP.St := [.ret (.and (.isi [.str] (.var 0)) (.cmp .in_ (.var 0) (.var 1)))]
theorem c_is_word : chkSs (gmOf N_is_word (defScope s_is_word) i_is_word tk) (lvOf true) b_is_word (defBody s_is_word) = true := by decide +kernel
theorem sc_is_word : FnScope N_is_word ["thing", "words"] (defScope s_is_word) := ⟨rfl, rfl, rfl, by decide +kernel, rfl, by decide +kernel, by decide +kernel⟩
def d_is_word : He.DefD := ⟨("is_word", none), "is_word", "is_word", defArgs s_is_word, defBody s_is_word, defScope s_is_word, [], []⟩
/-! is_integer -/
abbrev s_is_integer : Stmt := top 10
def N_is_integer : List Str := ["thing", "least", "most"]
def i_is_integer : List FI := []
def b_is_integer : List MP.St := [.ite (.or (.not (.isi [.int] (.var 0))) (.isi [.bool] (.var 0))) [.ret (.lit (.bl false))] [],
  .ret (.and (.or (.isN false (.var 1)) (.cmp .ge (.var 0) (.var 1))) (.or (.isN false (.var 2)) (.cmp .le (.var 0) (.var 2))))]
theorem c_is_integer : chkSs (gmOf N_is_integer (defScope s_is_integer) i_is_integer tk) (lvOf true) b_is_integer (defBody s_is_integer) = true := by decide +kernel
theorem sc_is_integer : FnScope N_is_integer ["thing", "least", "most"] (defScope s_is_integer) := ⟨rfl, rfl, rfl, by decide +kernel, rfl, by decide +kernel, by decide +kernel⟩
def d_is_integer : He.DefD := ⟨("is_integer", none), "is_integer", "is_integer", defArgs s_is_integer, defBody s_is_integer, defScope s_is_integer, [], []⟩
/-! is_worth -/
abbrev s_is_worth : Stmt := top 25
def N_is_worth : List Str := ["thing"]
def i_is_worth : List FI := [.fn "is_integer" 3 true, .hk (hkG "MOST_NUMBER"), .fn "is_word" 2 true, .hk (hkG "AGGREGATES"), .hk (hkG "COLUMNS"), .hk (hkG "SCOPES")]
def b_is_worth : List MP.St := [.ite (.call 0 [.var 0, .neg (.call 1 []), .call 1 []]) [.ret (.lit (.bl true))] [],
  .ite (.or (.not (.isi [.tup] (.var 0))) (.or (.cmp .ne (.blt .len [.var 0]) (.lit (.int 4))) (.not (.call 2 [.idx (.var 0) (.lit (.int 0)), .call 3 []])))) [.ret (.lit (.bl false))] [],
  .ret (.and (.call 2 [.idx (.var 0) (.lit (.int 1)), .call 4 []]) (.and (.call 2 [.idx (.var 0) (.lit (.int 2)), .call 5 []]) (.isi [.bool] (.idx (.var 0) (.lit (.int 3))))))]
theorem c_is_worth : chkSs (gmOf N_is_worth (defScope s_is_worth) i_is_worth tk) (lvOf true) b_is_worth (defBody s_is_worth) = true := by decide +kernel
theorem sc_is_worth : FnScope N_is_worth ["thing"] (defScope s_is_worth) := ⟨rfl, rfl, rfl, by decide +kernel, rfl, by decide +kernel, by decide +kernel⟩
def d_is_worth : He.DefD := ⟨("is_worth", none), "is_worth", "is_worth", defArgs s_is_worth, defBody s_is_worth, defScope s_is_worth, [], []⟩
/-! is_step -/
abbrev s_is_step : Stmt := top 26
def N_is_step : List Str := ["thing"]
def i_is_step : List FI := [.fn "is_word" 2 true, .hk (hkG "COLUMNS"), .hk (hkG "WORDS"), .fn "is_worth" 1 true]
def b_is_step : List MP.St := [.ite (.or (.not (.isi [.tup] (.var 0))) (.or (.cmp .ne (.blt .len [.var 0]) (.lit (.int 3))) (.not (.isi [.str] (.idx (.var 0) (.lit (.int 0))))))) [.ret (.lit (.bl false))] [],
  .ite (.not (.call 0 [.idx (.var 0) (.lit (.int 1)), .call 1 []])) [.ret (.lit (.bl false))] [],
  .ite (.cmp .eq (.idx (.var 0) (.lit (.int 0))) (.lit (.str "add"))) [.ret (.call 0 [.idx (.var 0) (.lit (.int 2)), .call 1 []])] [],
  .ret (.and (.cmp .in_ (.idx (.var 0) (.lit (.int 0))) (.call 2 [])) (.call 3 [.idx (.var 0) (.lit (.int 2))]))]
theorem c_is_step : chkSs (gmOf N_is_step (defScope s_is_step) i_is_step tk) (lvOf true) b_is_step (defBody s_is_step) = true := by decide +kernel
theorem sc_is_step : FnScope N_is_step ["thing"] (defScope s_is_step) := ⟨rfl, rfl, rfl, by decide +kernel, rfl, by decide +kernel, by decide +kernel⟩
def d_is_step : He.DefD := ⟨("is_step", none), "is_step", "is_step", defArgs s_is_step, defBody s_is_step, defScope s_is_step, [], []⟩
/-! check_steps -/
abbrev s_check_steps : Stmt := top 28
def N_check_steps : List Str := ["steps", "times", "index", "step"]
def i_check_steps : List FI := [.hk (hkG "MOST_STEPS"), .fn "is_step" 1 true, .hk (hkG "MOST_TIMES")]
def b_check_steps : List MP.St := [.ite (.not (.isi [.lst, .tup] (.var 0))) [.never] [],
  .asg 1 (.lit (.int 0)),
  .for_ (.tup [2, 3]) (.enum (.var 0)) [.ite (.or (.cmp .eq (.var 2) (.call 0 [])) (.not (.call 1 [.var 3]))) [.never] [],
  .aug 1 .add (.blt .int [.cmp .eq (.idx (.var 3) (.lit (.int 0))) (.lit (.str "times"))]),
  .ite (.cmp .gt (.var 1) (.call 2 [])) [.never] []]]
theorem c_check_steps : chkSs (gmOf N_check_steps (defScope s_check_steps) i_check_steps tk) (lvOf true) b_check_steps (defBody s_check_steps) = true := by decide +kernel
theorem sc_check_steps : FnScope N_check_steps ["steps"] (defScope s_check_steps) := ⟨rfl, rfl, rfl, by decide +kernel, rfl, by decide +kernel, by decide +kernel⟩
def d_check_steps : He.DefD := ⟨("check_steps", none), "check_steps", "check_steps", defArgs s_check_steps, defBody s_check_steps, defScope s_check_steps, [], []⟩
/-! _law_entry -/
abbrev s_law_entry : Stmt := top 43
def N_law_entry : List Str := ["_law_h"]
def i_law_entry : List FI := [.fn "_law_next" 2 true]
def b_law_entry : List MP.St := [.ret (.idx (.lst [.lit (.non), .lit (.int 0), .lit (.int 1), .neg (.lit (.int 2)), .lit (.int 3), .lit (.int 7), .lit (.non), .lit (.int 20), .neg (.lit (.int 5))]) (.call 0 [.var 0, .lit (.int 9)]))]
theorem c_law_entry : chkSs (gmOf N_law_entry (defScope s_law_entry) i_law_entry tk) (lvOf false) b_law_entry (defBody s_law_entry) = true := by decide +kernel
theorem sc_law_entry : FnScope N_law_entry ["_law_h"] (defScope s_law_entry) := ⟨rfl, rfl, rfl, by decide +kernel, rfl, by decide +kernel, by decide +kernel⟩
def d_law_entry : He.DefD := ⟨("_law_entry", none), "_law_entry", "_law_entry", defArgs s_law_entry, defBody s_law_entry, defScope s_law_entry, [], []⟩
/-! _law_table -/
abbrev s_law_table : Stmt := top 44
def N_law_table : List Str := ["_law_h", "_law_most", "_law_k"]
def i_law_table : List FI := [.fn "_law_next" 2 true, .fn "_law_pick" 2 false, .fn "_law_entry" 1 false]
def b_law_table : List MP.St := [.ret (.comp [2] (.one 2) (.rng [.call 0 [.var 0, .bin .add (.var 1) (.lit (.int 1))]]) none (.tup [.call 1 [.var 0, .lst [.lit (.str "a"), .lit (.str "b"), .lit (.str "c")]], .call 2 [.var 0], .call 2 [.var 0]]))]
theorem c_law_table : chkSs (gmOf N_law_table (defScope s_law_table) i_law_table tk) (lvOf true) b_law_table (defBody s_law_table) = true := by decide +kernel
theorem sc_law_table : FnScope N_law_table ["_law_h", "_law_most"] (defScope s_law_table) := ⟨rfl, rfl, rfl, by decide +kernel, rfl, by decide +kernel, by decide +kernel⟩
def d_law_table : He.DefD := ⟨("_law_table", none), "_law_table", "_law_table", defArgs s_law_table, defBody s_law_table, defScope s_law_table, [], []⟩
/-! _law_sum -/
abbrev s_law_sum : Stmt := top 45
def N_law_sum : List Str := ["_law_one", "_law_other", "_law_many"]
def i_law_sum : List FI := []
def b_law_sum : List MP.St := [.ret (.ite (.isN false (.var 0)) (.lit (.non)) (.bin .add (.var 0) (.bin .mul (.var 2) (.var 1))))]
theorem c_law_sum : chkSs (gmOf N_law_sum (defScope s_law_sum) i_law_sum tk) (lvOf true) b_law_sum (defBody s_law_sum) = true := by decide +kernel
theorem sc_law_sum : FnScope N_law_sum ["_law_one", "_law_other", "_law_many"] (defScope s_law_sum) := ⟨rfl, rfl, rfl, by decide +kernel, rfl, by decide +kernel, by decide +kernel⟩
def d_law_sum : He.DefD := ⟨("_law_sum", none), "_law_sum", "_law_sum", defArgs s_law_sum, defBody s_law_sum, defScope s_law_sum, [], []⟩
/-! is_mark -/
abbrev s_is_mark : Stmt := top 11
def N_is_mark : List Str := ["thing"]
def i_is_mark : List FI := [.hk (hkG "MARKS")]
def b_is_mark : List MP.St := [.ret (.and (.isi [.str] (.var 0)) (.and (.cmp .eq (.blt .len [.var 0]) (.lit (.int 1))) (.cmp .in_ (.var 0) (.call 0 []))))]
theorem c_is_mark : chkSs (gmOf N_is_mark (defScope s_is_mark) i_is_mark tk) (lvOf true) b_is_mark (defBody s_is_mark) = true := by decide +kernel
theorem sc_is_mark : FnScope N_is_mark ["thing"] (defScope s_is_mark) := ⟨rfl, rfl, rfl, by decide +kernel, rfl, by decide +kernel, by decide +kernel⟩
def d_is_mark : He.DefD := ⟨("is_mark", none), "is_mark", "is_mark", defArgs s_is_mark, defBody s_is_mark, defScope s_is_mark, [], []⟩
/-! is_row -/
abbrev s_is_row : Stmt := top 12
def N_is_row : List Str := ["thing", "entry"]
def i_is_row : List FI := [.fn "is_mark" 1 true, .fn "is_integer" 3 true]
def b_is_row : List MP.St := [.ite (.or (.not (.isi [.tup] (.var 0))) (.or (.cmp .ne (.blt .len [.var 0]) (.lit (.int 3))) (.not (.call 0 [.idx (.var 0) (.lit (.int 0))])))) [.ret (.lit (.bl false))] [],
  .ret (.blt .all [.comp [1] (.one 1) (.val (.slice (.var 0) (some (.lit (.int 1))) none)) none (.or (.isN false (.var 1)) (.call 1 [.var 1, .lit (.non), .lit (.non)]))])]
theorem c_is_row : chkSs (gmOf N_is_row (defScope s_is_row) i_is_row tk) (lvOf true) b_is_row (defBody s_is_row) = true := by decide +kernel
theorem sc_is_row : FnScope N_is_row ["thing"] (defScope s_is_row) := ⟨rfl, rfl, rfl, by decide +kernel, rfl, by decide +kernel, by decide +kernel⟩
def d_is_row : He.DefD := ⟨("is_row", none), "is_row", "is_row", defArgs s_is_row, defBody s_is_row, defScope s_is_row, [], []⟩
/-! check_table -/
abbrev s_check_table : Stmt := top 13
def N_check_table : List Str := ["table", "index", "row"]
def i_check_table : List FI := [.fn "is_row" 1 true]
def b_check_table : List MP.St := [.ite (.not (.isi [.lst] (.var 0))) [.never] [],
  .for_ (.tup [1, 2]) (.enum (.var 0)) [.ite (.not (.call 0 [.var 2])) [.never] []]]
theorem c_check_table : chkSs (gmOf N_check_table (defScope s_check_table) i_check_table tk) (lvOf true) b_check_table (defBody s_check_table) = true := by decide +kernel
theorem sc_check_table : FnScope N_check_table ["table"] (defScope s_check_table) := ⟨rfl, rfl, rfl, by decide +kernel, rfl, by decide +kernel, by decide +kernel⟩
def d_check_table : He.DefD := ⟨("check_table", none), "check_table", "check_table", defArgs s_check_table, defBody s_check_table, defScope s_check_table, [], []⟩
/-! marks_in -/
abbrev s_marks_in : Stmt := top 30
def N_marks_in : List Str := ["program", "mark", "scope", "behind", "found", "other"]
def i_marks_in : List FI := [.hk (hkG "MARKS")]
def b_marks_in : List MP.St := [.asgO 4 (.lst []),
  .for_ (.one 5) (.val (.call 0 [])) [.ite (.or (.cmp .eq (.var 2) (.lit (.str "all"))) (.or (.and (.cmp .eq (.var 2) (.lit (.str "same"))) (.cmp .eq (.var 5) (.var 1))) (.and (.cmp .eq (.var 2) (.lit (.str "ahead"))) (.cmp .lt (.var 5) (.var 1))))) [.ite (.or (.not (.var 3)) (.cmp .nin (.var 5) (.fld .marks (.var 0)))) [.app 4 (.var 5)] []] []],
  .retO 4]
theorem c_marks_in : chkSs (gmOf N_marks_in (defScope s_marks_in) i_marks_in tk) (lvOf true) b_marks_in (defBody s_marks_in) = true := by decide +kernel
theorem sc_marks_in : FnScope N_marks_in ["program", "mark", "scope", "behind"] (defScope s_marks_in) := ⟨rfl, rfl, rfl, by decide +kernel, rfl, by decide +kernel, by decide +kernel⟩
def d_marks_in : He.DefD := ⟨("marks_in", none), "marks_in", "marks_in", defArgs s_marks_in, defBody s_marks_in, defScope s_marks_in, [], []⟩
/-! entry_of -/
abbrev s_entry_of : Stmt := top 14
def N_entry_of : List Str := ["row", "column"]
def i_entry_of : List FI := []
def b_entry_of : List MP.St := [.ret (.idx (.var 0) (.bin .add (.lit (.int 1)) (.cidx "COLUMNS" ["x", "y"] (.var 1))))]
theorem c_entry_of : chkSs (gmOf N_entry_of (defScope s_entry_of) i_entry_of tk) (lvOf false) b_entry_of (defBody s_entry_of) = true := by decide +kernel
theorem sc_entry_of : FnScope N_entry_of ["row", "column"] (defScope s_entry_of) := ⟨rfl, rfl, rfl, by decide +kernel, rfl, by decide +kernel, by decide +kernel⟩
def d_entry_of : He.DefD := ⟨("entry_of", none), "entry_of", "entry_of", defArgs s_entry_of, defBody s_entry_of, defScope s_entry_of, [], []⟩
/-! worth_for -/
abbrev s_worth_for : Stmt := top 32
def N_worth_for : List Str := ["program", "worth", "mark", "table", "marks", "entries", "word", "column", "scope", "behind", "row", "entry"]
def i_worth_for : List FI := [.fn "marks_in" 4 true, .fn "entry_of" 2 false]
def b_worth_for : List MP.St := [.ite (.not (.isi [.tup] (.var 1))) [.ret (.var 1)] [],
  .unp [6, 7, 8, 9] (.var 1),
  .asg 4 (.call 0 [.var 0, .var 2, .var 8, .var 9]),
  .asg 5 (.comp [10] (.one 10) (.val (.var 3)) (some (.cmp .in_ (.idx (.var 10) (.lit (.int 0))) (.var 4))) (.call 1 [.var 10, .var 7])),
  .asg 5 (.comp [11] (.one 11) (.val (.var 5)) (some (.isN true (.var 11))) (.var 11)),
  .ret (.ite (.cmp .eq (.var 6) (.lit (.str "sum"))) (.blt .sum [.var 5]) (.blt .len [.var 5]))]
theorem c_worth_for : chkSs (gmOf N_worth_for (defScope s_worth_for) i_worth_for tk) (lvOf false) b_worth_for (defBody s_worth_for) = true := by decide +kernel
theorem sc_worth_for : FnScope N_worth_for ["program", "worth", "mark", "table"] (defScope s_worth_for) := ⟨rfl, rfl, rfl, by decide +kernel, rfl, by decide +kernel, by decide +kernel⟩
def d_worth_for : He.DefD := ⟨("worth_for", none), "worth_for", "worth_for", defArgs s_worth_for, defBody s_worth_for, defScope s_worth_for, [], []⟩
/-! with_entry -/
abbrev s_with_entry : Stmt := top 15
def N_with_entry : List Str := ["row", "column", "entry", "at"]
def i_with_entry : List FI := []
def b_with_entry : List MP.St := [.asg 3 (.bin .add (.lit (.int 1)) (.cidx "COLUMNS" ["x", "y"] (.var 1))),
  .ret (.tup [.star (.slice (.var 0) none (some (.var 3))), .var 2, .star (.slice (.var 0) (some (.bin .add (.var 3) (.lit (.int 1)))) none)])]
theorem c_with_entry : chkSs (gmOf N_with_entry (defScope s_with_entry) i_with_entry tk) (lvOf true) b_with_entry (defBody s_with_entry) = true := by decide +kernel
theorem sc_with_entry : FnScope N_with_entry ["row", "column", "entry"] (defScope s_with_entry) := ⟨rfl, rfl, rfl, by decide +kernel, rfl, by decide +kernel, by decide +kernel⟩
def d_with_entry : He.DefD := ⟨("with_entry", none), "with_entry", "with_entry", defArgs s_with_entry, defBody s_with_entry, defScope s_with_entry, [], []⟩
/-! changed_entry -/
abbrev s_changed_entry : Stmt := top 33
def N_changed_entry : List Str := ["step", "row", "worths", "entry", "worth", "word", "column", "what", "other"]
def i_changed_entry : List FI := [.fn "entry_of" 2 false]
def b_changed_entry : List MP.St := [.unp [5, 6, 7] (.var 0),
  .asg 3 (.call 0 [.var 1, .var 6]),
  .ite (.cmp .eq (.var 5) (.lit (.str "add"))) [.asg 8 (.call 0 [.var 1, .var 7]),
  .ret (.ite (.or (.isN false (.var 3)) (.isN false (.var 8))) (.lit (.non)) (.bin .add (.var 3) (.var 8)))] [],
  .asg 4 (.idx (.var 2) (.idx (.var 1) (.lit (.int 0)))),
  .ite (.or (.cmp .eq (.var 5) (.lit (.str "put"))) (.and (.cmp .eq (.var 5) (.lit (.str "fill"))) (.isN false (.var 3)))) [.ret (.var 4)] [],
  .ite (.or (.isN false (.var 3)) (.cmp .eq (.var 5) (.lit (.str "fill")))) [.ret (.var 3)] [],
  .ret (.ite (.cmp .eq (.var 5) (.lit (.str "less"))) (.bin .sub (.var 3) (.var 4)) (.bin .mul (.var 3) (.var 4)))]
theorem c_changed_entry : chkSs (gmOf N_changed_entry (defScope s_changed_entry) i_changed_entry tk) (lvOf false) b_changed_entry (defBody s_changed_entry) = true := by decide +kernel
theorem sc_changed_entry : FnScope N_changed_entry ["step", "row", "worths"] (defScope s_changed_entry) := ⟨rfl, rfl, rfl, by decide +kernel, rfl, by decide +kernel, by decide +kernel⟩
def d_changed_entry : He.DefD := ⟨("changed_entry", none), "changed_entry", "changed_entry", defArgs s_changed_entry, defBody s_changed_entry, defScope s_changed_entry, [], []⟩
/-! stepped -/
abbrev s_stepped : Stmt := top 34
def N_stepped : List Str := ["program", "table", "many", "step", "worths", "row", "mark"]
def i_stepped : List FI := [.hk (hkG "MARKS"), .fn "worth_for" 4 false, .fn "with_entry" 3 true, .fn "changed_entry" 3 false]
def b_stepped : List MP.St := [.for_ (.one 3) (.val (.slice (.fld .rows (.var 0)) none (some (.var 2)))) [.asg 4 (.dic0),
  .ite (.cmp .ne (.idx (.var 3) (.lit (.int 0))) (.lit (.str "add"))) [.asg 4 (.dcomp [6] (.one 6) (.val (.call 0 [])) (.var 6) (.call 1 [.var 0, .idx (.var 3) (.lit (.int 2)), .var 6, .var 1]))] [],
  .asg 1 (.comp [5] (.one 5) (.val (.var 1)) none (.call 2 [.var 5, .idx (.var 3) (.lit (.int 1)), .call 3 [.var 3, .var 5, .var 4]]))],
  .ret (.blt .list [.var 1])]
theorem c_stepped : chkSs (gmOf N_stepped (defScope s_stepped) i_stepped tk) (lvOf true) b_stepped (defBody s_stepped) = true := by decide +kernel
theorem sc_stepped : FnScope N_stepped ["program", "table", "many"] (defScope s_stepped) := ⟨rfl, rfl, rfl, by decide +kernel, rfl, by decide +kernel, by decide +kernel⟩
def d_stepped : He.DefD := ⟨("stepped", none), "stepped", "stepped", defArgs s_stepped, defBody s_stepped, defScope s_stepped, [], []⟩
/-! done -/
abbrev s_done : Stmt := top 35
def N_done : List Str := ["program", "table"]
def i_done : List FI := [.fn "check_table" 1 true, .fn "stepped" 3 true]
def b_done : List MP.St := [.exp (.call 0 [.var 1]),
  .ret (.call 1 [.var 0, .var 1, .blt .len [.fld .rows (.var 0)]])]
theorem c_done : chkSs (gmOf N_done (defScope s_done) i_done tk) (lvOf true) b_done (defBody s_done) = true := by decide +kernel
theorem sc_done : FnScope N_done ["program", "table"] (defScope s_done) := ⟨rfl, rfl, rfl, by decide +kernel, rfl, by decide +kernel, by decide +kernel⟩
def d_done : He.DefD := ⟨("done", none), "done", "done", defArgs s_done, defBody s_done, defScope s_done, [], []⟩
/-! law -/
abbrev s_law : Stmt := top 46
def N_law : List Str := ["_law_script", "_law_h", "_law_turn", "_law_plain", "_law_step", "_law_both", "_law_held", "_law_steps_here", "_law_columns", "_law_program", "_law_one", "_law_other", "_law_many", "_law_mark", "_law_x", "_law_y", "_law_first", "_law_second", "_law_rows", "_law_later", "_law_due"]
def i_law : List FI := [.fn "_law_mix" 2 false, .fn "_law_parts" 2 true, .hk (hkNew "Program" 3), .fn "_law_table" 2 true, .fn "_law_next" 2 true, .fn "_law_sum" 3 true, .fn "done" 2 true]
def b_law : List MP.St := [.asg 1 (.call 0 [.var 0, .lit (.int 15)]),
  .for_ (.one 2) (.rng [.lit (.int 5)]) [.unp [6, 7, 8] (.call 1 [.var 1, .lit (.int 5)]),
  .asgO 3 (.lst []),
  .for_ (.one 4) (.val (.var 7)) [.ite (.cmp .eq (.idx (.var 4) (.lit (.int 0))) (.lit (.str "times"))) [.asg 4 (.bin .add (.tup [.lit (.str "less")]) (.slice (.var 4) (some (.lit (.int 1))) none))] [],
  .ite (.isi [.int] (.idx (.var 4) (.lit (.int 2)))) [.asg 4 (.bin .add (.slice (.var 4) none (some (.lit (.int 2)))) (.tup [.lit (.int 0)]))] [.ite (.isi [.tup] (.idx (.var 4) (.lit (.int 2)))) [.asg 4 (.bin .add (.slice (.var 4) none (some (.lit (.int 2)))) (.tup [.bin .add (.tup [.lit (.str "sum")]) (.slice (.idx (.var 4) (.lit (.int 2))) (some (.lit (.int 1))) none)]))] []],
  .app 3 (.var 4)],
  .frz 3 (.par [(false, 9), (false, 10)] [.call 2 [.var 6, .var 3, .var 8], .call 3 [.var 1, .lit (.int 8)]]),
  .par [(true, 11), (false, 12)] [.lst [], .bin .sub (.call 4 [.var 1, .lit (.int 9)]) (.lit (.int 4))],
  .for_ (.tup [13, 14, 15]) (.val (.var 10)) [.asg 14 (.ite (.isN false (.var 14)) (.lit (.non)) (.bin .sub (.call 4 [.var 1, .lit (.int 50)]) (.lit (.int 20)))),
  .asg 15 (.ite (.isN false (.var 15)) (.lit (.non)) (.bin .sub (.call 4 [.var 1, .lit (.int 50)]) (.lit (.int 25)))),
  .app 11 (.tup [.var 13, .var 14, .var 15])],
  .asgO 5 (.lst []),
  .frz 11 (.for_ (.tup [16, 17]) (.zip (.var 10) (.var 11)) [.app 5 (.tup [.idx (.var 16) (.lit (.int 0)), .call 5 [.idx (.var 16) (.lit (.int 1)), .idx (.var 17) (.lit (.int 1)), .var 12], .call 5 [.idx (.var 16) (.lit (.int 2)), .idx (.var 17) (.lit (.int 2)), .var 12]])]),
  .frz 11 (.par [(false, 18), (false, 19), (true, 20)] [.call 6 [.var 9, .var 10], .call 6 [.var 9, .var 11], .lst []]),
  .for_ (.tup [16, 17]) (.zip (.var 18) (.var 19)) [.app 20 (.tup [.idx (.var 16) (.lit (.int 0)), .call 5 [.idx (.var 16) (.lit (.int 1)), .idx (.var 17) (.lit (.int 1)), .var 12], .call 5 [.idx (.var 16) (.lit (.int 2)), .idx (.var 17) (.lit (.int 2)), .var 12]])],
  .frz 5 (.ite (.cmp .ne (.call 6 [.var 9, .var 5]) (.pk 20)) [.ret (.lit (.bl false))] [])],
  .ret (.lit (.bl true))]
theorem c_law : chkSs (gmOf N_law (defScope s_law) i_law tk) (lvOf true) b_law (defBody s_law) = true := by decide +kernel
theorem sc_law : FnScope N_law ["_law_script"] (defScope s_law) := ⟨rfl, rfl, rfl, by decide +kernel, rfl, by decide +kernel, by decide +kernel⟩
def d_law : He.DefD := ⟨("law", none), "law", "law", defArgs s_law, defBody s_law, defScope s_law, [], []⟩
/-! Program -/
abbrev s_ini : Stmt := inClass (top 29) 0
def N_ini : List Str := ["self", "held", "steps", "columns"]
def i_ini : List FI := [.fn "check_held" 1 true, .fn "check_steps" 1 true, .fn "is_word" 2 true, .hk (hkG "TOLD")]
def b_ini : IniE := ⟨.call 0 [.var 1], .call 1 [.var 2], .not (.call 2 [.var 3, .call 3 []]), .var 1, .blt .tuple [.var 2], .var 3⟩
theorem c_ini : chkIni (gmOf N_ini (defScope s_ini) i_ini tk) b_ini (defBody s_ini) = true := by decide +kernel
theorem sc_ini : FnScope N_ini N_ini (defScope s_ini) := ⟨rfl, rfl, rfl, by decide +kernel, rfl, by decide +kernel, by decide +kernel⟩
def d_ini : He.DefD := ⟨("Program", some "__init__"), "__init__", "Program.__init__", defArgs s_ini, defBody s_ini, defScope s_ini, [], []⟩
def F_law_mix : FS := evDef (fnL []) N_law_mix.length b_law_mix
def F_law_next : FS := evDef (fnL []) N_law_next.length b_law_next
def F_law_pick : FS := evDef (fnL [F_law_next]) N_law_pick.length b_law_pick
def F_law_worth : FS := evDef (fnL [F_law_next, F_law_pick]) N_law_worth.length b_law_worth
def F_law_steps : FS := evDef (fnL [F_law_next, F_law_pick, F_law_worth]) N_law_steps.length b_law_steps
def F_law_parts : FS := evDef (fnL [F_law_pick, F_law_steps]) N_law_parts.length b_law_parts
def F_check_held : FS := evDef (fnL [constF (.str "abc")]) N_check_held.length b_check_held
def F_is_word : FS := evDef (fnL []) N_is_word.length b_is_word
def F_is_integer : FS := evDef (fnL []) N_is_integer.length b_is_integer
def F_is_worth : FS := evDef (fnL [F_is_integer, constF (.int 9), F_is_word, constF (.tup [.str "sum", .str "count"]), constF (.tup [.str "x", .str "y"]), constF (.tup [.str "all", .str "same", .str "ahead"])]) N_is_worth.length b_is_worth
def F_is_step : FS := evDef (fnL [F_is_word, constF (.tup [.str "x", .str "y"]), constF (.tup [.str "fill", .str "less", .str "times", .str "put"]), F_is_worth]) N_is_step.length b_is_step
def F_check_steps : FS := evDef (fnL [constF (.int 5), F_is_step, constF (.int 1)]) N_check_steps.length b_check_steps
def F_law_entry : FS := evDef (fnL [F_law_next]) N_law_entry.length b_law_entry
def F_law_table : FS := evDef (fnL [F_law_next, F_law_pick, F_law_entry]) N_law_table.length b_law_table
def F_law_sum : FS := evDef (fnL []) N_law_sum.length b_law_sum
def F_is_mark : FS := evDef (fnL [constF (.str "abc")]) N_is_mark.length b_is_mark
def F_is_row : FS := evDef (fnL [F_is_mark, F_is_integer]) N_is_row.length b_is_row
def F_check_table : FS := evDef (fnL [F_is_row]) N_check_table.length b_check_table
def F_marks_in : FS := evDef (fnL [constF (.str "abc")]) N_marks_in.length b_marks_in
def F_entry_of : FS := evDef (fnL []) N_entry_of.length b_entry_of
def F_worth_for : FS := evDef (fnL [F_marks_in, F_entry_of]) N_worth_for.length b_worth_for
def F_with_entry : FS := evDef (fnL []) N_with_entry.length b_with_entry
def F_changed_entry : FS := evDef (fnL [F_entry_of]) N_changed_entry.length b_changed_entry
def F_stepped : FS := evDef (fnL [constF (.str "abc"), F_worth_for, F_with_entry, F_changed_entry]) N_stepped.length b_stepped
def F_done : FS := evDef (fnL [F_check_table, F_stepped]) N_done.length b_done
def F_new_Program : FS := iniF (fnL [F_check_held, F_check_steps, F_is_word, constF (.tup [.str "x", .str "y", .str "xy"])]) b_ini
def F_law : FS := evDef (fnL [F_law_mix, F_law_parts, F_new_Program, F_law_table, F_law_next, F_law_sum, F_done]) N_law.length b_law
def fn : List He.DefD := [d_law_mix, d_law_next, d_law_pick, d_law_worth, d_law_steps, d_law_parts, d_check_held, d_is_word, d_is_integer, d_is_worth, d_is_step, d_check_steps, d_law_entry, d_law_table, d_law_sum, d_is_mark, d_is_row, d_check_table, d_marks_in, d_entry_of, d_worth_for, d_with_entry, d_changed_entry, d_stepped, d_done, d_law, d_ini]
def fa : List He.Fa := bltNames.map He.Fa.free ++ ([.glo "_law_mix", .glo "_law_next", .glo "_law_pick", .glo "_law_worth", .glo "_law_steps", .glo "_law_parts", .glo "check_held", .glo "is_word", .glo "is_integer", .glo "is_worth", .glo "is_step", .glo "check_steps", .glo "_law_entry", .glo "_law_table", .glo "_law_sum", .glo "is_mark", .glo "is_row", .glo "check_table", .glo "marks_in", .glo "entry_of", .glo "worth_for", .glo "with_entry", .glo "changed_entry", .glo "stepped", .glo "done", .glo "law", .glo "Program", .cls "Program", .noat "Program" "marks", .noat "Program" "rows", .noat "Program" "shown", .mkr "Program", .glo "AGGREGATES", .glo "COLUMNS", .str "MARKS" "abc", .int "MOST_NUMBER" 9, .int "MOST_STEPS" 5, .int "MOST_TIMES" 1, .glo "SCOPES", .glo "TOLD", .glo "WORDS"] : List He.Fa)
def ex (K : PySem.W.Frag) : Bool := tupKB K "AGGREGATES" ["sum", "count"] && (tupKB K "COLUMNS" ["x", "y"] && (tupKB K "SCOPES" ["all", "same", "ahead"] && (tupKB K "TOLD" ["x", "y", "xy"] && (tupKB K "WORDS" ["fill", "less", "times", "put"]))))
abbrev Rw : PySem.W.OpenRow := PySem.W.OpenLaw.row PySem.Challenge.rw_keptback_k15_whole_tables_added
abbrev hk : PySem.W.Hook := He.hookX 5 fa fn [] [] ex
def ob (s : PySem.W.SharedT) : He.AlX := He.obsX 5 fa fn [] [] ex (HandSHeadRun.getT s)
theorem ob_eq (s : PySem.W.SharedT) : ob s = hk.obs s.abs := He.obsX_eq (HandSHeadRun.getT_eq s)
def loose : List PySem.Str := (["_wall", "RowError", "BadRow", "BadHeld", "BadStep", "BadTold", "MARKS", "COLUMNS", "is_integer", "is_mark", "is_row", "check_table", "entry_of", "with_entry", "MOST_STEPS", "MOST_TIMES", "MOST_NUMBER", "WORDS", "AGGREGATES", "SCOPES", "TOLD", "is_word", "is_worth", "is_step", "check_held", "check_steps", "Program", "marks_in", "worth_for", "changed_entry"] : List PySem.Str) ++ (["stepped", "done", "_law_mix", "_law_next", "_law_pick", "_law_worth", "_law_steps", "_law_parts", "_law_entry", "_law_table", "_law_sum"] : List PySem.Str)
set_option maxHeartbeats 0 in
theorem run (w : World) : HandSHeadRun.RunEq Rw (PySem.W.view Rw.prog [46]) hk ob 6000 loose w := by
  intro os
  kernel_rfl
section
variable {D : Wd} (X : Fx fa fn ex D)
include X
theorem tu_AGGREGATES : TupK D.C.K D.mg "AGGREGATES" ["sum", "count"] := tupKB_ok (He.ba X.e).1 (X.gl "AGGREGATES" (X.t.fact 47 (f := .glo "AGGREGATES") rfl))
theorem tu_COLUMNS : TupK D.C.K D.mg "COLUMNS" ["x", "y"] := tupKB_ok (He.ba (He.ba X.e).2).1 (X.gl "COLUMNS" (X.t.fact 48 (f := .glo "COLUMNS") rfl))
theorem tu_SCOPES : TupK D.C.K D.mg "SCOPES" ["all", "same", "ahead"] := tupKB_ok (He.ba (He.ba (He.ba X.e).2).2).1 (X.gl "SCOPES" (X.t.fact 53 (f := .glo "SCOPES") rfl))
theorem tu_TOLD : TupK D.C.K D.mg "TOLD" ["x", "y", "xy"] := tupKB_ok (He.ba (He.ba (He.ba (He.ba X.e).2).2).2).1 (X.gl "TOLD" (X.t.fact 54 (f := .glo "TOLD") rfl))
theorem tu_WORDS : TupK D.C.K D.mg "WORDS" ["fill", "less", "times", "put"] := tupKB_ok (He.ba (He.ba (He.ba (He.ba X.e).2).2).2).2 (X.gl "WORDS" (X.t.fact 55 (f := .glo "WORDS") rfl))
theorem wd : WdOk D tk where
  blt := fun x hx => X.fr x (X.t.facts (List.mem_append_left _ (List.mem_map_of_mem hx)))
  tk := fun p hp => by
    simp only [tk, List.mem_cons, List.mem_nil_iff, or_false] at hp
    subst hp
    exact tu_COLUMNS X
  prg := ⟨by rw [X.cP]; exact He.cls_ok (X.t.fact 42 (f := .cls "Program") rfl), fun f => by
    rw [X.cP]
    cases f with
    | marks => exact He.noat_ok (X.t.fact 43 (f := .noat "Program" "marks") rfl)
    | rows => exact He.noat_ok (X.t.fact 44 (f := .noat "Program" "rows") rfl)
    | shown => exact He.noat_ok (X.t.fact 45 (f := .noat "Program" "shown") rfl)⟩
theorem k_law_mix : FIK D 1 (.fn "_law_mix" 2 false) F_law_mix := by
  obtain ⟨fd, F⟩ := X.t.def_ 0 (d := d_law_mix) rfl
  exact ⟨_, fd, ["_law_script", "_law_seed"], def_ok (k := 0) (wd X) F sc_law_mix (.nil) c_law_mix, X.gl "_law_mix" (X.t.fact 15 (f := .glo "_law_mix") rfl), F.kp, F.bindsN (ps := ["_law_script", "_law_seed"]) fun _ _ _ _ _ _ us hl => match us, hl with | [_, _], _ => rfl⟩
theorem k_law_next : FIK D 1 (.fn "_law_next" 2 true) F_law_next := by
  obtain ⟨fd, F⟩ := X.t.def_ 1 (d := d_law_next) rfl
  exact ⟨_, fd, ["_law_h", "_law_cap"], def_ok (k := 0) (wd X) F sc_law_next (.nil) c_law_next, X.gl "_law_next" (X.t.fact 16 (f := .glo "_law_next") rfl), F.kp, F.bindsN (ps := ["_law_h", "_law_cap"]) fun _ _ _ _ _ _ us hl => match us, hl with | [_, _], _ => rfl⟩
theorem k_law_pick : FIK D 2 (.fn "_law_pick" 2 false) F_law_pick := by
  obtain ⟨fd, F⟩ := X.t.def_ 2 (d := d_law_pick) rfl
  exact ⟨_, fd, ["_law_h", "_law_things"], def_ok (k := 1) (wd X) F sc_law_pick (.cons (k_law_next X) (by decide) (.nil)) c_law_pick, X.gl "_law_pick" (X.t.fact 17 (f := .glo "_law_pick") rfl), F.kp, F.bindsN (ps := ["_law_h", "_law_things"]) fun _ _ _ _ _ _ us hl => match us, hl with | [_, _], _ => rfl⟩
theorem k_law_worth : FIK D 3 (.fn "_law_worth" 1 false) F_law_worth := by
  obtain ⟨fd, F⟩ := X.t.def_ 3 (d := d_law_worth) rfl
  exact ⟨_, fd, ["_law_h"], def_ok (k := 2) (wd X) F sc_law_worth (.cons (k_law_next X) (by decide) (.cons (k_law_pick X) (by decide) (.nil))) c_law_worth, X.gl "_law_worth" (X.t.fact 18 (f := .glo "_law_worth") rfl), F.kp, F.bindsN (ps := ["_law_h"]) fun _ _ _ _ _ _ us hl => match us, hl with | [_], _ => rfl⟩
theorem k_law_steps : FIK D 4 (.fn "_law_steps" 2 true) F_law_steps := by
  obtain ⟨fd, F⟩ := X.t.def_ 4 (d := d_law_steps) rfl
  exact ⟨_, fd, ["_law_h", "_law_most"], def_ok (k := 3) (wd X) F sc_law_steps (.cons (k_law_next X) (by decide) (.cons (k_law_pick X) (by decide) (.cons (k_law_worth X) (by decide) (.nil)))) c_law_steps, X.gl "_law_steps" (X.t.fact 19 (f := .glo "_law_steps") rfl), F.kp, F.bindsN (ps := ["_law_h", "_law_most"]) fun _ _ _ _ _ _ us hl => match us, hl with | [_, _], _ => rfl⟩
theorem k_law_parts : FIK D 5 (.fn "_law_parts" 2 true) F_law_parts := by
  obtain ⟨fd, F⟩ := X.t.def_ 5 (d := d_law_parts) rfl
  exact ⟨_, fd, ["_law_h", "_law_most"], def_ok (k := 4) (wd X) F sc_law_parts (.cons (k_law_pick X) (by decide) (.cons (k_law_steps X) (by decide) (.nil))) c_law_parts, X.gl "_law_parts" (X.t.fact 20 (f := .glo "_law_parts") rfl), F.kp, F.bindsN (ps := ["_law_h", "_law_most"]) fun _ _ _ _ _ _ us hl => match us, hl with | [_, _], _ => rfl⟩
theorem k_check_held : FIK D 1 (.fn "check_held" 1 true) F_check_held := by
  obtain ⟨fd, F⟩ := X.t.def_ 6 (d := d_check_held) rfl
  exact ⟨_, fd, ["held"], def_ok (k := 0) (wd X) F sc_check_held (.cons (j := 0) (str_const (X.str "MARKS" "abc" (X.t.fact 49 (f := .str "MARKS" "abc") rfl)) (by decide +kernel)) (by decide) (.nil)) c_check_held, X.gl "check_held" (X.t.fact 21 (f := .glo "check_held") rfl), F.kp, F.bindsN (ps := ["held"]) fun _ _ _ _ _ _ us hl => match us, hl with | [_], _ => rfl⟩
theorem k_is_word : FIK D 1 (.fn "is_word" 2 true) F_is_word := by
  obtain ⟨fd, F⟩ := X.t.def_ 7 (d := d_is_word) rfl
  exact ⟨_, fd, ["thing", "words"], def_ok (k := 0) (wd X) F sc_is_word (.nil) c_is_word, X.gl "is_word" (X.t.fact 22 (f := .glo "is_word") rfl), F.kp, F.bindsN (ps := ["thing", "words"]) fun _ _ _ _ _ _ us hl => match us, hl with | [_, _], _ => rfl⟩
theorem k_is_integer : FIK D 1 (.fn "is_integer" 3 true) F_is_integer := by
  obtain ⟨fd, F⟩ := X.t.def_ 8 (d := d_is_integer) rfl
  exact ⟨_, fd, ["thing", "least", "most"], def_ok (k := 0) (wd X) F sc_is_integer (.nil) c_is_integer, X.gl "is_integer" (X.t.fact 23 (f := .glo "is_integer") rfl), F.kp, F.bindsN (ps := ["thing", "least", "most"]) fun _ _ _ _ _ _ us hl => match us, hl with | [_, _, _], _ => rfl⟩
theorem k_is_worth : FIK D 2 (.fn "is_worth" 1 true) F_is_worth := by
  obtain ⟨fd, F⟩ := X.t.def_ 9 (d := d_is_worth) rfl
  exact ⟨_, fd, ["thing"], def_ok (k := 1) (wd X) F sc_is_worth (.cons (k_is_integer X) (by decide) (.cons (j := 0) (int_const (X.int "MOST_NUMBER" 9 (X.t.fact 50 (f := .int "MOST_NUMBER" 9) rfl))) (by decide) (.cons (k_is_word X) (by decide) (.cons (j := 0) (tup_const (tu_AGGREGATES X) (by decide +kernel) (by decide)) (by decide) (.cons (j := 0) (tup_const (tu_COLUMNS X) (by decide +kernel) (by decide)) (by decide) (.cons (j := 0) (tup_const (tu_SCOPES X) (by decide +kernel) (by decide)) (by decide) (.nil))))))) c_is_worth, X.gl "is_worth" (X.t.fact 24 (f := .glo "is_worth") rfl), F.kp, F.bindsN (ps := ["thing"]) fun _ _ _ _ _ _ us hl => match us, hl with | [_], _ => rfl⟩
theorem k_is_step : FIK D 3 (.fn "is_step" 1 true) F_is_step := by
  obtain ⟨fd, F⟩ := X.t.def_ 10 (d := d_is_step) rfl
  exact ⟨_, fd, ["thing"], def_ok (k := 2) (wd X) F sc_is_step (.cons (k_is_word X) (by decide) (.cons (j := 0) (tup_const (tu_COLUMNS X) (by decide +kernel) (by decide)) (by decide) (.cons (j := 0) (tup_const (tu_WORDS X) (by decide +kernel) (by decide)) (by decide) (.cons (k_is_worth X) (by decide) (.nil))))) c_is_step, X.gl "is_step" (X.t.fact 25 (f := .glo "is_step") rfl), F.kp, F.bindsN (ps := ["thing"]) fun _ _ _ _ _ _ us hl => match us, hl with | [_], _ => rfl⟩
theorem k_check_steps : FIK D 4 (.fn "check_steps" 1 true) F_check_steps := by
  obtain ⟨fd, F⟩ := X.t.def_ 11 (d := d_check_steps) rfl
  exact ⟨_, fd, ["steps"], def_ok (k := 3) (wd X) F sc_check_steps (.cons (j := 0) (int_const (X.int "MOST_STEPS" 5 (X.t.fact 51 (f := .int "MOST_STEPS" 5) rfl))) (by decide) (.cons (k_is_step X) (by decide) (.cons (j := 0) (int_const (X.int "MOST_TIMES" 1 (X.t.fact 52 (f := .int "MOST_TIMES" 1) rfl))) (by decide) (.nil)))) c_check_steps, X.gl "check_steps" (X.t.fact 26 (f := .glo "check_steps") rfl), F.kp, F.bindsN (ps := ["steps"]) fun _ _ _ _ _ _ us hl => match us, hl with | [_], _ => rfl⟩
theorem k_law_entry : FIK D 2 (.fn "_law_entry" 1 false) F_law_entry := by
  obtain ⟨fd, F⟩ := X.t.def_ 12 (d := d_law_entry) rfl
  exact ⟨_, fd, ["_law_h"], def_ok (k := 1) (wd X) F sc_law_entry (.cons (k_law_next X) (by decide) (.nil)) c_law_entry, X.gl "_law_entry" (X.t.fact 27 (f := .glo "_law_entry") rfl), F.kp, F.bindsN (ps := ["_law_h"]) fun _ _ _ _ _ _ us hl => match us, hl with | [_], _ => rfl⟩
theorem k_law_table : FIK D 3 (.fn "_law_table" 2 true) F_law_table := by
  obtain ⟨fd, F⟩ := X.t.def_ 13 (d := d_law_table) rfl
  exact ⟨_, fd, ["_law_h", "_law_most"], def_ok (k := 2) (wd X) F sc_law_table (.cons (k_law_next X) (by decide) (.cons (k_law_pick X) (by decide) (.cons (k_law_entry X) (by decide) (.nil)))) c_law_table, X.gl "_law_table" (X.t.fact 28 (f := .glo "_law_table") rfl), F.kp, F.bindsN (ps := ["_law_h", "_law_most"]) fun _ _ _ _ _ _ us hl => match us, hl with | [_, _], _ => rfl⟩
theorem k_law_sum : FIK D 1 (.fn "_law_sum" 3 true) F_law_sum := by
  obtain ⟨fd, F⟩ := X.t.def_ 14 (d := d_law_sum) rfl
  exact ⟨_, fd, ["_law_one", "_law_other", "_law_many"], def_ok (k := 0) (wd X) F sc_law_sum (.nil) c_law_sum, X.gl "_law_sum" (X.t.fact 29 (f := .glo "_law_sum") rfl), F.kp, F.bindsN (ps := ["_law_one", "_law_other", "_law_many"]) fun _ _ _ _ _ _ us hl => match us, hl with | [_, _, _], _ => rfl⟩
theorem k_is_mark : FIK D 1 (.fn "is_mark" 1 true) F_is_mark := by
  obtain ⟨fd, F⟩ := X.t.def_ 15 (d := d_is_mark) rfl
  exact ⟨_, fd, ["thing"], def_ok (k := 0) (wd X) F sc_is_mark (.cons (j := 0) (str_const (X.str "MARKS" "abc" (X.t.fact 49 (f := .str "MARKS" "abc") rfl)) (by decide +kernel)) (by decide) (.nil)) c_is_mark, X.gl "is_mark" (X.t.fact 30 (f := .glo "is_mark") rfl), F.kp, F.bindsN (ps := ["thing"]) fun _ _ _ _ _ _ us hl => match us, hl with | [_], _ => rfl⟩
theorem k_is_row : FIK D 2 (.fn "is_row" 1 true) F_is_row := by
  obtain ⟨fd, F⟩ := X.t.def_ 16 (d := d_is_row) rfl
  exact ⟨_, fd, ["thing"], def_ok (k := 1) (wd X) F sc_is_row (.cons (k_is_mark X) (by decide) (.cons (k_is_integer X) (by decide) (.nil))) c_is_row, X.gl "is_row" (X.t.fact 31 (f := .glo "is_row") rfl), F.kp, F.bindsN (ps := ["thing"]) fun _ _ _ _ _ _ us hl => match us, hl with | [_], _ => rfl⟩
theorem k_check_table : FIK D 3 (.fn "check_table" 1 true) F_check_table := by
  obtain ⟨fd, F⟩ := X.t.def_ 17 (d := d_check_table) rfl
  exact ⟨_, fd, ["table"], def_ok (k := 2) (wd X) F sc_check_table (.cons (k_is_row X) (by decide) (.nil)) c_check_table, X.gl "check_table" (X.t.fact 32 (f := .glo "check_table") rfl), F.kp, F.bindsN (ps := ["table"]) fun _ _ _ _ _ _ us hl => match us, hl with | [_], _ => rfl⟩
theorem k_marks_in : FIK D 1 (.fn "marks_in" 4 true) F_marks_in := by
  obtain ⟨fd, F⟩ := X.t.def_ 18 (d := d_marks_in) rfl
  exact ⟨_, fd, ["program", "mark", "scope", "behind"], def_ok (k := 0) (wd X) F sc_marks_in (.cons (j := 0) (str_const (X.str "MARKS" "abc" (X.t.fact 49 (f := .str "MARKS" "abc") rfl)) (by decide +kernel)) (by decide) (.nil)) c_marks_in, X.gl "marks_in" (X.t.fact 33 (f := .glo "marks_in") rfl), F.kp, F.bindsN (ps := ["program", "mark", "scope", "behind"]) fun _ _ _ _ _ _ us hl => match us, hl with | [_, _, _, _], _ => rfl⟩
theorem k_entry_of : FIK D 1 (.fn "entry_of" 2 false) F_entry_of := by
  obtain ⟨fd, F⟩ := X.t.def_ 19 (d := d_entry_of) rfl
  exact ⟨_, fd, ["row", "column"], def_ok (k := 0) (wd X) F sc_entry_of (.nil) c_entry_of, X.gl "entry_of" (X.t.fact 34 (f := .glo "entry_of") rfl), F.kp, F.bindsN (ps := ["row", "column"]) fun _ _ _ _ _ _ us hl => match us, hl with | [_, _], _ => rfl⟩
theorem k_worth_for : FIK D 2 (.fn "worth_for" 4 false) F_worth_for := by
  obtain ⟨fd, F⟩ := X.t.def_ 20 (d := d_worth_for) rfl
  exact ⟨_, fd, ["program", "worth", "mark", "table"], def_ok (k := 1) (wd X) F sc_worth_for (.cons (k_marks_in X) (by decide) (.cons (k_entry_of X) (by decide) (.nil))) c_worth_for, X.gl "worth_for" (X.t.fact 35 (f := .glo "worth_for") rfl), F.kp, F.bindsN (ps := ["program", "worth", "mark", "table"]) fun _ _ _ _ _ _ us hl => match us, hl with | [_, _, _, _], _ => rfl⟩
theorem k_with_entry : FIK D 1 (.fn "with_entry" 3 true) F_with_entry := by
  obtain ⟨fd, F⟩ := X.t.def_ 21 (d := d_with_entry) rfl
  exact ⟨_, fd, ["row", "column", "entry"], def_ok (k := 0) (wd X) F sc_with_entry (.nil) c_with_entry, X.gl "with_entry" (X.t.fact 36 (f := .glo "with_entry") rfl), F.kp, F.bindsN (ps := ["row", "column", "entry"]) fun _ _ _ _ _ _ us hl => match us, hl with | [_, _, _], _ => rfl⟩
theorem k_changed_entry : FIK D 2 (.fn "changed_entry" 3 false) F_changed_entry := by
  obtain ⟨fd, F⟩ := X.t.def_ 22 (d := d_changed_entry) rfl
  exact ⟨_, fd, ["step", "row", "worths"], def_ok (k := 1) (wd X) F sc_changed_entry (.cons (k_entry_of X) (by decide) (.nil)) c_changed_entry, X.gl "changed_entry" (X.t.fact 37 (f := .glo "changed_entry") rfl), F.kp, F.bindsN (ps := ["step", "row", "worths"]) fun _ _ _ _ _ _ us hl => match us, hl with | [_, _, _], _ => rfl⟩
theorem k_stepped : FIK D 3 (.fn "stepped" 3 true) F_stepped := by
  obtain ⟨fd, F⟩ := X.t.def_ 23 (d := d_stepped) rfl
  exact ⟨_, fd, ["program", "table", "many"], def_ok (k := 2) (wd X) F sc_stepped (.cons (j := 0) (str_const (X.str "MARKS" "abc" (X.t.fact 49 (f := .str "MARKS" "abc") rfl)) (by decide +kernel)) (by decide) (.cons (k_worth_for X) (by decide) (.cons (k_with_entry X) (by decide) (.cons (k_changed_entry X) (by decide) (.nil))))) c_stepped, X.gl "stepped" (X.t.fact 38 (f := .glo "stepped") rfl), F.kp, F.bindsN (ps := ["program", "table", "many"]) fun _ _ _ _ _ _ us hl => match us, hl with | [_, _, _], _ => rfl⟩
theorem k_done : FIK D 4 (.fn "done" 2 true) F_done := by
  obtain ⟨fd, F⟩ := X.t.def_ 24 (d := d_done) rfl
  exact ⟨_, fd, ["program", "table"], def_ok (k := 3) (wd X) F sc_done (.cons (k_check_table X) (by decide) (.cons (k_stepped X) (by decide) (.nil))) c_done, X.gl "done" (X.t.fact 39 (f := .glo "done") rfl), F.kp, F.bindsN (ps := ["program", "table"]) fun _ _ _ _ _ _ us hl => match us, hl with | [_, _], _ => rfl⟩
theorem k_new : FIK D 6 (.hk (hkNew "Program" 3)) F_new_Program := by
  obtain ⟨fd, F⟩ := X.t.def_ 26 (d := d_ini) rfl
  exact new_ok (by rw [X.cP]; exact He.mkr_ok (X.t.fact 46 (f := .mkr "Program") rfl)) (by rw [X.cP]; exact X.gl "Program" (X.t.fact 41 (f := .glo "Program") rfl)) (F.bindsN (ps := N_ini) fun _ _ _ _ _ _ us hl => match us, hl with | [_, _, _, _], _ => rfl)
    (ini_ok (k := 4) (wd X) rfl F sc_ini (.cons (k_check_held X) (by decide) (.cons (k_check_steps X) (by decide) (.cons (k_is_word X) (by decide) (.cons (j := 0) (tup_const (tu_TOLD X) (by decide +kernel) (by decide)) (by decide) (.nil))))) c_ini)
theorem k_law : FIK D 7 (.fn "law" 1 true) F_law := by
  obtain ⟨fd, F⟩ := X.t.def_ 25 (d := d_law) rfl
  exact ⟨_, fd, ["_law_script"], def_ok (k := 6) (wd X) F sc_law (.cons (k_law_mix X) (by decide) (.cons (k_law_parts X) (by decide) (.cons (k_new X) (by decide) (.cons (k_law_table X) (by decide) (.cons (k_law_next X) (by decide) (.cons (k_law_sum X) (by decide) (.cons (k_done X) (by decide) (.nil)))))))) c_law, X.gl "law" (X.t.fact 40 (f := .glo "law") rfl), F.kp, F.bindsN (ps := ["_law_script"]) fun _ _ _ _ _ _ us hl => match us, hl with | [_], _ => rfl⟩
theorem fn_law {f : Addr} {fd : FuncData} (F : FunD D.C.K "law" "law" (defArgs s_law) (defBody s_law) (defScope s_law) [] [] f fd) : FnKx D 7 1 true F_law f fd ["_law_script"] := def_ok (k := 6) (wd X) F sc_law (.cons (k_law_mix X) (by decide) (.cons (k_law_parts X) (by decide) (.cons (k_new X) (by decide) (.cons (k_law_table X) (by decide) (.cons (k_law_next X) (by decide) (.cons (k_law_sum X) (by decide) (.cons (k_done X) (by decide) (.nil)))))))) c_law
end
end Gk15

namespace Gk15
open PySem MP
/-- the drawing state -/
def HS (S : Sto) : Prop := ∃ (ns : List Int) (a i : Int), ns.length ≤ 63 ∧ 0 ≤ i ∧ S = [.lst (ns.map .int), .lst [.int a, .ref 0, .int i]]
theorem next_ok {S : Sto} {cap : Int} (h : HS S) (h1 : 1 ≤ cap) (h2 : cap < 1073741824) : Rs (F_law_next [.ref 1, .int cap] S) fun d S' => ∃ r, d = .int r ∧ 0 ≤ r ∧ r < cap ∧ HS S' := by
  obtain ⟨ns, a, i, hl, hi, rfl⟩ := h
  have hB : BIG = 16777216 := rfl
  have e1 : (ns.map D.int ++ [D.int 0]).length ≤ BIG := by simp; omega
  have e0 : 1 ≤ BIG := by omega
  have m0 : (0 : Int) < (if ((ns.map D.int).length : Int) > 1 then ((ns.map D.int).length : Int) else 1) := by split <;> omega
  have m1 := Int.emod_nonneg i (Int.ne_of_gt m0)
  have m2 := Int.emod_lt_of_pos i m0
  have m3 : (if ((ns.map D.int).length : Int) > 1 then ((ns.map D.int).length : Int) else 1) ≤ ns.length + 1 := by rw [List.length_map]; split <;> omega
  obtain ⟨c, c1, c2⟩ := atI_pos (xs := ns.map D.int ++ [D.int 0]) m1 (by have := Int.lt_of_lt_of_le m2 m3; simpa using this)
  obtain ⟨z, rfl⟩ : ∃ z, c = .int z := by
    have := List.mem_of_getElem? c2
    simp at this
    rcases this with ⟨z, _, rfl⟩ | rfl
    · exact ⟨z, rfl⟩
    · exact ⟨0, rfl⟩
  have k1 : (0 : Int) < 2147483647 := by decide
  have k2 : (0 : Int) < 7 := by decide
  have k3 : (7 : Int) < 1073741824 := by decide
  have k4 : (0 : Int) < cap := by omega
  have q1 : small 48271 = true := by decide
  have q2 : small 69621 = true := by decide
  have i0 : L2.ixN 3 0 = some 0 := by decide
  have i2 : L2.ixN 3 2 = some 2 := by decide
  by_cases hz : (1000000000000000000 : Int) ≤ z
  · have hn : ns ≠ [] := by
      rintro rfl
      simp at c2
      rcases c2 with ⟨_, c2⟩
      omega
    have hp : 0 < ns.length := List.length_pos_iff.mpr hn
    have p0 : (0 : Int) < ((ns.map D.int).length : Int) := by rw [List.length_map]; omega
    have p1 := ixN_pos (n := (ns.map D.int).length) (Int.emod_nonneg i (Int.ne_of_gt p0)) (Int.emod_lt_of_pos i p0)
    simp only [F_law_next, evDef, b_law_next, N_law_next, startE, evSs, evS, evE, evEs, immAt, setI, List.map_cons, List.map_nil, List.length_cons, List.length_nil, List.cons_append, List.nil_append, List.getElem?_cons_zero, List.getElem?_cons_succ, R.of_some, R.bind_ok, RS.of_ok, RS.seq_nx, RS.seq_ret,
      s_cget, s_cell0, s_cell1, s_bind, atI_0, atI_1, atI_2, s_mkL, s_ccat, s_int1, s_clen, s_map, s_max, s_mod, s_ix2, e0, e1, m0, decide_true, if_true, s_ge, s_pow18, s_truth, List.set, c1, s_mul, q1, q2, Bool.or_true, s_add1, s_fdiv, k1, k2, k3, k4, h2, Bool.and_true, hz, List.replicate, s_csetL, p0, p1, Nat.reduceAdd, Nat.reduceSub, R.of_none]
    refine Rs.ok ⟨z % cap, rfl, Int.emod_nonneg _ (by omega), Int.emod_lt_of_pos _ k4, ns.set (i % ((ns.map D.int).length : Int)).toNat (z / cap), a, i, by simpa using hl, hi, by rw [List.map_set]⟩
  · simp only [F_law_next, evDef, b_law_next, N_law_next, startE, evSs, evS, evE, evEs, immAt, setI, List.map_cons, List.map_nil, List.length_cons, List.length_nil, List.cons_append, List.nil_append, List.getElem?_cons_zero, List.getElem?_cons_succ, R.of_some, R.bind_ok, RS.of_ok, RS.seq_nx, RS.seq_ret,
      s_cget, s_cell0, s_cell1, s_bind, atI_0, atI_1, atI_2, s_mkL, s_ccat, s_int1, s_clen, s_map, s_max, s_mod, s_ix2, e0, e1, m0, decide_true, if_true, s_ge, s_pow18, s_truth, List.set, c1, s_mul, q1, q2, Bool.or_true, s_add1, s_fdiv, k1, k2, k3, k4, h2, Bool.and_true, hz, List.replicate, s_csetL, Nat.reduceAdd, Nat.reduceSub, R.of_none, decide_false, Bool.false_eq_true, if_false, i0, i2, List.set_cons_zero, List.set_cons_succ]
    exact Rs.ok ⟨_, rfl, Int.emod_nonneg _ (by omega), Int.emod_lt_of_pos _ k4, ns, _, i + 1, hl, by omega, rfl⟩
end Gk15

namespace Gk15
open PySem MP
theorem BIGv : BIG = 16777216 := rfl
theorem mkT_of {xs : List D} {n : Nat} (h : xs.length = n) (hn : n ≤ 16777216) : mkTup xs = some (.tup xs) := if_pos (by rw [h, BIGv]; exact hn)
theorem mkL_of {xs : List D} {n : Nat} (h : xs.length = n) (hn : n ≤ 16777216) : mkLst xs = some (.lst xs) := if_pos (by rw [h, BIGv]; exact hn)
theorem mix_loop (seed : Int) (ms : List Int) (S : Sto) : ∀ (ns : List Int) (v : Int) (x : Slot), ∃ (v' : Int) (y : Slot), forS (fnL []) (.one 3) [.asg 2 (.bin .mod (.blt .int [.bin .add (.bin .add (.bin .mul (.var 2) (.lit (.int 48271))) (.bin .mod (.blt .int [.var 3]) (.lit (.int 2147483629)))) (.lit (.int 1))]) (.lit (.int 2147483647)))]
    (ns.map .int) [.imm (.scr ms), .imm (.int seed), .imm (.int v), x] S = .nx [.imm (.scr ms), .imm (.int seed), .imm (.int v'), y] S
  | [], v, x => ⟨v, x, rfl⟩
  | n :: ns, v, x => by
    have k1 : (0 : Int) < 2147483647 := by decide
    have k2 : (0 : Int) < 2147483629 := by decide
    have q1 : small 48271 = true := by decide
    obtain ⟨v', y, h⟩ := mix_loop seed ms S ns ((v * 48271 + n % 2147483629 + 1) % 2147483647) (.imm (.int n))
    refine ⟨v', y, ?_⟩
    rw [← h]
    simp only [evDef, startE, evSs, evEs, evO, evIf, evSrc, s_it1, s_it2, s_it3, e_lit, e_glob, e_var, e_pk, e_tup, e_lst, e_bin, e_star, e_neg, e_cmp, e_isN, e_chain, e_and, e_or, e_not, e_ite, e_idx, e_slice, e_fld, e_call, e_blt, e_isi, e_join, e_comp, e_dcomp, e_dic0, e_cidx, e_cell, e_cget, e_clen, e_ccat, v_asg, v_asgO, v_unp, v_par, v_setI, v_setK, v_aug, v_app, v_exp, v_ret, v_retO, v_retN, v_ite, v_for_, v_pass, v_never, v_frz, v_cset, immAt, pkAt, MP.setI, ownAt, lstOwn, dicOwn, MP.setO, List.map_cons, List.map_nil, List.length_cons, List.length_nil, List.cons_append, List.nil_append, List.getElem?_cons_zero, List.getElem?_cons_succ, R.of_some, R.of_none, R.bind_ok, RS.of_ok, RS.seq_nx, RS.seq_ret, nc0, nc1, nc2, nc3, nc4, nc5, nc6, nc7, nc8, nc9, s_bind, s_map, s_eqI, s_neI, s_eqS, s_neS, atI_0, atI_1, atI_2, atI_3, s_int1, s_int2, s_max, s_mod, s_ix1, s_ix2, s_len1, s_len2, s_list1, s_list2, s_list3, s_tup1, s_tup2, decide_true, decide_false, if_true, if_false, s_ge, s_lt, s_le, s_gt, s_truth, List.set_cons_zero, List.set_cons_succ, s_mul, Bool.or_true, s_add1, s_add3, s_add4, s_sub, s_fdiv, Bool.and_true, Bool.false_eq_true, List.replicate, Nat.reduceAdd, Nat.reduceSub, Int.reduceAdd, Int.reduceSub, Int.reduceMul, fnL, constF, newCell, R.bind_stuck, forS, forLoop, bindTg, k1, k2, q1]
theorem mix_ok {ns : List Int} {seed : Int} (h : ns.length ≤ 63) : Rs (F_law_mix [.scr ns, .int seed] []) fun d S => d = .ref 1 ∧ HS S := by
  obtain ⟨v', y, e⟩ := mix_loop seed ns [] ns seed .no
  simp only [evDef, startE, evSs, evEs, evO, evIf, evSrc, s_it1, s_it2, s_it3, e_lit, e_glob, e_var, e_pk, e_tup, e_lst, e_bin, e_star, e_neg, e_cmp, e_isN, e_chain, e_and, e_or, e_not, e_ite, e_idx, e_slice, e_fld, e_call, e_blt, e_isi, e_join, e_comp, e_dcomp, e_dic0, e_cidx, e_cell, e_cget, e_clen, e_ccat, v_asg, v_asgO, v_unp, v_par, v_setI, v_setK, v_aug, v_app, v_exp, v_ret, v_retO, v_retN, v_ite, v_for_, v_pass, v_never, v_frz, v_cset, immAt, pkAt, MP.setI, ownAt, lstOwn, dicOwn, MP.setO, List.map_cons, List.map_nil, List.length_cons, List.length_nil, List.cons_append, List.nil_append, List.getElem?_cons_zero, List.getElem?_cons_succ, R.of_some, R.of_none, R.bind_ok, RS.of_ok, RS.seq_nx, RS.seq_ret, nc0, nc1, nc2, nc3, nc4, nc5, nc6, nc7, nc8, nc9, s_bind, s_map, s_eqI, s_neI, s_eqS, s_neS, atI_0, atI_1, atI_2, atI_3, s_int1, s_int2, s_max, s_mod, s_ix1, s_ix2, s_len1, s_len2, s_list1, s_list2, s_list3, s_tup1, s_tup2, decide_true, decide_false, if_true, if_false, s_ge, s_lt, s_le, s_gt, s_truth, List.set_cons_zero, List.set_cons_succ, s_mul, Bool.or_true, s_add1, s_add3, s_add4, s_sub, s_fdiv, Bool.and_true, Bool.false_eq_true, List.replicate, Nat.reduceAdd, Nat.reduceSub, Int.reduceAdd, Int.reduceSub, Int.reduceMul, fnL, constF, newCell, R.bind_stuck, F_law_mix, b_law_mix, N_law_mix, e, mkL_of (xs := [.int v', .ref 0, .int 0]) (n := 3) rfl (by decide), mkL_of (xs := [.int 0]) (n := 1) rfl (by decide)]
  exact Rs.ok ⟨rfl, ns, v', 0, h, Int.le_refl _, rfl⟩
/-- a drawn item -/
theorem pick_ok {S : Sto} {xs : List D} (h : HS S) (h1 : 1 ≤ xs.length) (h2 : xs.length < 1000) : Rs (F_law_pick [.ref 1, .lst xs] S) fun d S' => d ∈ xs ∧ HS S' := by
  obtain ⟨d, S', e, r, rfl, r0, r1, hs⟩ := next_ok (cap := xs.length) h (by omega) (by omega)
  obtain ⟨x, a1, a2⟩ := atI_pos (xs := xs) r0 r1
  simp only [evDef, startE, evSs, evEs, evO, evIf, evSrc, s_it1, s_it2, s_it3, e_lit, e_glob, e_var, e_pk, e_tup, e_lst, e_bin, e_star, e_neg, e_cmp, e_isN, e_chain, e_and, e_or, e_not, e_ite, e_idx, e_slice, e_fld, e_call, e_blt, e_isi, e_join, e_comp, e_dcomp, e_dic0, e_cidx, e_cell, e_cget, e_clen, e_ccat, v_asg, v_asgO, v_unp, v_par, v_setI, v_setK, v_aug, v_app, v_exp, v_ret, v_retO, v_retN, v_ite, v_for_, v_pass, v_never, v_frz, v_cset, immAt, pkAt, MP.setI, ownAt, lstOwn, dicOwn, MP.setO, List.map_cons, List.map_nil, List.length_cons, List.length_nil, List.cons_append, List.nil_append, List.getElem?_cons_zero, List.getElem?_cons_succ, R.of_some, R.of_none, R.bind_ok, RS.of_ok, RS.seq_nx, RS.seq_ret, nc0, nc1, nc2, nc3, nc4, nc5, nc6, nc7, nc8, nc9, s_bind, s_map, s_eqI, s_neI, s_eqS, s_neS, atI_0, atI_1, atI_2, atI_3, s_int1, s_int2, s_max, s_mod, s_ix1, s_ix2, s_len1, s_len2, s_list1, s_list2, s_list3, s_tup1, s_tup2, decide_true, decide_false, if_true, if_false, s_ge, s_lt, s_le, s_gt, s_truth, List.set_cons_zero, List.set_cons_succ, s_mul, Bool.or_true, s_add1, s_add3, s_add4, s_sub, s_fdiv, Bool.and_true, Bool.false_eq_true, List.replicate, Nat.reduceAdd, Nat.reduceSub, Int.reduceAdd, Int.reduceSub, Int.reduceMul, fnL, constF, newCell, R.bind_stuck, F_law_pick, b_law_pick, N_law_pick, e, a1]
  exact Rs.ok ⟨List.mem_of_getElem? a2, hs⟩
end Gk15

namespace Gk15
open PySem MP
def IsCol (d : D) : Prop := d = .str "x" ∨ d = .str "y"
inductive IsW : D → Prop
  | int {i : Int} : -9 ≤ i → i ≤ 9 → IsW (.int i)
  | tup {w c s : Str} {b : Bool} : w = "sum" ∨ w = "count" → c = "x" ∨ c = "y" → s = "all" ∨ s = "same" ∨ s = "ahead" → IsW (.tup [.str w, .str c, .str s, .bl b])
theorem worth_ok {S : Sto} (h : HS S) : Rs (F_law_worth [.ref 1] S) fun d S' => IsW d ∧ HS S' := by
  obtain ⟨_, S1, e1, r1, rfl, a1, b1, h1⟩ := next_ok (cap := 4) h (by decide) (by decide)
  by_cases hz : r1 = 0
  · subst hz
    obtain ⟨_, S2, e2, r2, rfl, a2, b2, h2⟩ := next_ok (cap := 7) h1 (by decide) (by decide)
    obtain ⟨x, t1, t2⟩ := atI_pos (xs := [D.int 0, .int 1, .int (-1), .int 2, .int 5, .int (-9), .int 0]) a2 (by simpa using b2)
    have hx := List.mem_of_getElem? t2
    simp only [evDef, startE, evSs, evEs, evO, evIf, evSrc, s_it1, s_it2, s_it3, e_lit, e_glob, e_var, e_pk, e_tup, e_lst, e_bin, e_star, e_neg, e_cmp, e_isN, e_chain, e_and, e_or, e_not, e_ite, e_idx, e_slice, e_fld, e_call, e_blt, e_isi, e_join, e_comp, e_dcomp, e_dic0, e_cidx, e_cell, e_cget, e_clen, e_ccat, v_asg, v_asgO, v_unp, v_par, v_setI, v_setK, v_aug, v_app, v_exp, v_ret, v_retO, v_retN, v_ite, v_for_, v_pass, v_never, v_frz, v_cset, immAt, pkAt, MP.setI, ownAt, lstOwn, dicOwn, MP.setO, List.map_cons, List.map_nil, List.length_cons, List.length_nil, List.cons_append, List.nil_append, List.getElem?_cons_zero, List.getElem?_cons_succ, R.of_some, R.of_none, R.bind_ok, RS.of_ok, RS.seq_nx, RS.seq_ret, nc0, nc1, nc2, nc3, nc4, nc5, nc6, nc7, nc8, nc9, s_bind, s_map, s_eqI, s_neI, s_eqS, s_neS, atI_0, atI_1, atI_2, atI_3, s_int1, s_int2, s_max, s_mod, s_ix1, s_ix2, s_len1, s_len2, s_list1, s_list2, s_list3, s_tup1, s_tup2, decide_true, decide_false, if_true, if_false, s_ge, s_lt, s_le, s_gt, s_truth, List.set_cons_zero, List.set_cons_succ, s_mul, Bool.or_true, s_add1, s_add3, s_add4, s_sub, s_fdiv, Bool.and_true, Bool.false_eq_true, List.replicate, Nat.reduceAdd, Nat.reduceSub, Int.reduceAdd, Int.reduceSub, Int.reduceMul, fnL, constF, newCell, R.bind_stuck, F_law_worth, b_law_worth, N_law_worth, e1, e2, t1, mkL_of (xs := [D.int 0, .int 1, .int (-1), .int 2, .int 5, .int (-9), .int 0]) (n := 7) rfl (by decide)]
    refine Rs.ok ⟨?_, h2⟩
    simp at hx
    rcases hx with rfl | rfl | rfl | rfl | rfl | rfl | rfl <;> exact .int (by decide) (by decide)
  · obtain ⟨_, S2, e2, r2, rfl, a2, b2, h2⟩ := next_ok (cap := 3) h1 (by decide) (by decide)
    obtain ⟨_, S3, e3, r3, rfl, a3, b3, h3⟩ := next_ok (cap := 3) h2 (by decide) (by decide)
    obtain ⟨w, t1, t2⟩ := atI_pos (xs := [D.str "sum", .str "sum", .str "count"]) a2 (by simpa using b2)
    obtain ⟨c, t3, t4⟩ := atI_pos (xs := [D.str "all", .str "same", .str "ahead"]) a3 (by simpa using b3)
    obtain ⟨p, S4, e4, hp, h4⟩ := pick_ok (xs := [D.str "x", .str "y"]) h3 (by decide) (by decide)
    obtain ⟨_, S5, e5, r5, rfl, a5, b5, h5⟩ := next_ok (cap := 3) h4 (by decide) (by decide)
    have hx := List.mem_of_getElem? t2
    have hy := List.mem_of_getElem? t4
    simp only [evDef, startE, evSs, evEs, evO, evIf, evSrc, s_it1, s_it2, s_it3, e_lit, e_glob, e_var, e_pk, e_tup, e_lst, e_bin, e_star, e_neg, e_cmp, e_isN, e_chain, e_and, e_or, e_not, e_ite, e_idx, e_slice, e_fld, e_call, e_blt, e_isi, e_join, e_comp, e_dcomp, e_dic0, e_cidx, e_cell, e_cget, e_clen, e_ccat, v_asg, v_asgO, v_unp, v_par, v_setI, v_setK, v_aug, v_app, v_exp, v_ret, v_retO, v_retN, v_ite, v_for_, v_pass, v_never, v_frz, v_cset, immAt, pkAt, MP.setI, ownAt, lstOwn, dicOwn, MP.setO, List.map_cons, List.map_nil, List.length_cons, List.length_nil, List.cons_append, List.nil_append, List.getElem?_cons_zero, List.getElem?_cons_succ, R.of_some, R.of_none, R.bind_ok, RS.of_ok, RS.seq_nx, RS.seq_ret, nc0, nc1, nc2, nc3, nc4, nc5, nc6, nc7, nc8, nc9, s_bind, s_map, s_eqI, s_neI, s_eqS, s_neS, atI_0, atI_1, atI_2, atI_3, s_int1, s_int2, s_max, s_mod, s_ix1, s_ix2, s_len1, s_len2, s_list1, s_list2, s_list3, s_tup1, s_tup2, decide_true, decide_false, if_true, if_false, s_ge, s_lt, s_le, s_gt, s_truth, List.set_cons_zero, List.set_cons_succ, s_mul, Bool.or_true, s_add1, s_add3, s_add4, s_sub, s_fdiv, Bool.and_true, Bool.false_eq_true, List.replicate, Nat.reduceAdd, Nat.reduceSub, Int.reduceAdd, Int.reduceSub, Int.reduceMul, fnL, constF, newCell, R.bind_stuck, F_law_worth, b_law_worth, N_law_worth, e1, e2, e3, e4, e5, t1, t3, hz, mkL_of (xs := [D.str "sum", .str "sum", .str "count"]) (n := 3) rfl (by decide), mkL_of (xs := [D.str "all", .str "same", .str "ahead"]) (n := 3) rfl (by decide), mkL_of (xs := [D.str "x", .str "y"]) (n := 2) rfl (by decide), MP.setPar, Bool.false_and,
      mkT_of (xs := [w, p, c, .bl (decide (r5 = 0))]) (n := 4) rfl (by decide)]
    refine Rs.ok ⟨?_, h5⟩
    simp at hx hy hp
    rcases hx with rfl | rfl <;> rcases hy with rfl | rfl | rfl <;> rcases hp with rfl | rfl <;> exact .tup (by simp) (by simp) (by simp)
end Gk15

namespace Gk15
open PySem MP
inductive IsSt : D → Prop
  | add {c e : Str} : c = "x" ∨ c = "y" → e = "x" ∨ e = "y" → IsSt (.tup [.str "add", .str c, .str e])
  | put {w c : Str} {v : D} : w = "fill" ∨ w = "less" ∨ w = "put" ∨ w = "times" → c = "x" ∨ c = "y" → IsW v → IsSt (.tup [.str w, .str c, v])
def isT : D → Bool
  | .tup (.str w :: _) => decide (w = "times")
  | _ => false
def gT (d : D) : Option D := if isT d then some d else none
theorem IsW.plain {d : D} (h : IsW d) (n : Nat) : d.plain (n + 1) = true := by cases h <;> simp [D.plain, D.plains]
theorem IsSt.plain {d : D} (h : IsSt d) (n : Nat) : d.plain (n + 2) = true := by
  cases h with
  | add a b => simp [D.plain, D.plains]
  | put a b c => simp [D.plain, D.plains, c.plain n]
theorem plains_of {n : Nat} : ∀ {xs : List D}, (∀ d ∈ xs, d.plain n = true) → D.plains n xs = true
  | [], _ => by simp [D.plains]
  | x :: xs, h => by simp [D.plains, h x List.mem_cons_self, plains_of fun d hd => h d (List.mem_cons_of_mem x hd)]
theorem ne_nil {xs : List D} (h : D.plains 63 xs = true) : dCmp .ne (.lst xs) (.lst []) = some (!xs.isEmpty) := by
  have e : (D.lst xs).eqv (.lst []) = xs.isEmpty := by cases xs <;> simp [D.eqv, D.eqvs]
  unfold dCmp
  simp only [D.plain, D.plains, h, e, Bool.and_self, if_true]
structure StepsOk (xs : List D) : Prop where
  all : ∀ d ∈ xs, IsSt d
  one : (xs.filterMap gT).length ≤ 1
theorem StepsOk.snoc {xs : List D} {d : D} (h : StepsOk xs) (hd : IsSt d) (ht : isT d = true → xs.filterMap gT = []) : StepsOk (xs ++ [d]) where
  all := fun e he => by
    rcases List.mem_append.mp he with he | he
    · exact h.all e he
    · rw [List.mem_singleton.mp he]; exact hd
  one := by
    rw [List.filterMap_append]
    by_cases q : isT d = true
    · simp [ht q, gT, q]
    · simp [gT, q]; exact h.one
theorem times_comp {xs : List D} {a b c : Slot} {k w v : Slot} {fn : Nat → FS} {s : Sto} (h : ∀ d ∈ xs, IsSt d) : compS fn [6] (.one 6) (some (.cmp .eq (.idx (.var 6) (.lit (.int 0))) (.lit (.str "times")))) (.var 6) [a, b, c, k, w, v, .no] xs s = .ok (xs.filterMap gT) s := by
  refine compS_run gT fun d hd => ?_
  refine ⟨[a, b, c, k, w, v, .imm d], rfl, isT d, ?_, ?_⟩
  · cases h d hd with
    | add p q => simp only [evDef, startE, evSs, evEs, evO, evIf, evSrc, s_it1, s_it2, s_it3, e_lit, e_glob, e_var, e_pk, e_tup, e_lst, e_bin, e_star, e_neg, e_cmp, e_isN, e_chain, e_and, e_or, e_not, e_ite, e_idx, e_slice, e_fld, e_call, e_blt, e_isi, e_join, e_comp, e_dcomp, e_dic0, e_cidx, e_cell, e_cget, e_clen, e_ccat, v_asg, v_asgO, v_unp, v_par, v_setI, v_setK, v_aug, v_app, v_exp, v_ret, v_retO, v_retN, v_ite, v_for_, v_pass, v_never, v_frz, v_cset, immAt, pkAt, MP.setI, ownAt, lstOwn, dicOwn, MP.setO, List.map_cons, List.map_nil, List.length_cons, List.length_nil, List.cons_append, List.nil_append, List.getElem?_cons_zero, List.getElem?_cons_succ, R.of_some, R.of_none, R.bind_ok, RS.of_ok, RS.seq_nx, RS.seq_ret, nc0, nc1, nc2, nc3, nc4, nc5, nc6, nc7, nc8, nc9, s_bind, s_map, s_eqI, s_neI, s_eqS, s_neS, atI_0, atI_1, atI_2, atI_3, s_int1, s_int2, s_max, s_mod, s_ix1, s_ix2, s_len1, s_len2, s_list1, s_list2, s_list3, s_tup1, s_tup2, decide_true, decide_false, if_true, if_false, s_ge, s_lt, s_le, s_gt, s_truth, List.set_cons_zero, List.set_cons_succ, s_mul, Bool.or_true, s_add1, s_add3, s_add4, s_sub, s_fdiv, Bool.and_true, Bool.false_eq_true, List.replicate, Nat.reduceAdd, Nat.reduceSub, Int.reduceAdd, Int.reduceSub, Int.reduceMul, fnL, constF, newCell, R.bind_stuck, isT]
    | put p q r => simp only [evDef, startE, evSs, evEs, evO, evIf, evSrc, s_it1, s_it2, s_it3, e_lit, e_glob, e_var, e_pk, e_tup, e_lst, e_bin, e_star, e_neg, e_cmp, e_isN, e_chain, e_and, e_or, e_not, e_ite, e_idx, e_slice, e_fld, e_call, e_blt, e_isi, e_join, e_comp, e_dcomp, e_dic0, e_cidx, e_cell, e_cget, e_clen, e_ccat, v_asg, v_asgO, v_unp, v_par, v_setI, v_setK, v_aug, v_app, v_exp, v_ret, v_retO, v_retN, v_ite, v_for_, v_pass, v_never, v_frz, v_cset, immAt, pkAt, MP.setI, ownAt, lstOwn, dicOwn, MP.setO, List.map_cons, List.map_nil, List.length_cons, List.length_nil, List.cons_append, List.nil_append, List.getElem?_cons_zero, List.getElem?_cons_succ, R.of_some, R.of_none, R.bind_ok, RS.of_ok, RS.seq_nx, RS.seq_ret, nc0, nc1, nc2, nc3, nc4, nc5, nc6, nc7, nc8, nc9, s_bind, s_map, s_eqI, s_neI, s_eqS, s_neS, atI_0, atI_1, atI_2, atI_3, s_int1, s_int2, s_max, s_mod, s_ix1, s_ix2, s_len1, s_len2, s_list1, s_list2, s_list3, s_tup1, s_tup2, decide_true, decide_false, if_true, if_false, s_ge, s_lt, s_le, s_gt, s_truth, List.set_cons_zero, List.set_cons_succ, s_mul, Bool.or_true, s_add1, s_add3, s_add4, s_sub, s_fdiv, Bool.and_true, Bool.false_eq_true, List.replicate, Nat.reduceAdd, Nat.reduceSub, Int.reduceAdd, Int.reduceSub, Int.reduceMul, fnL, constF, newCell, R.bind_stuck, isT]
  · cases hh : isT d with
    | true => exact ⟨d, rfl, by simp [gT, hh]⟩
    | false => simp [gT, hh]
theorem steps_ok {S : Sto} (h : HS S) : Rs (F_law_steps [.ref 1, .int 5] S) fun d S' => (∃ xs, d = .lst xs ∧ StepsOk xs ∧ xs.length ≤ 5) ∧ HS S' := by
  obtain ⟨_, S1, e1, r, rfl, a1, b1, h1⟩ := next_ok (cap := 6) h (by decide) (by decide)
  refine def_run ?_
  have er : dRng [.int r] = some (rngItems 0 r.toNat) := by
    have q : (decide (-(2 ^ 62) ≤ r) && decide (r ≤ BIG)) = true := by rw [BIGv]; simp; omega
    exact if_pos q
  simp only [evDef, startE, evSs, evEs, evO, evIf, evSrc, s_it1, s_it2, s_it3, e_lit, e_glob, e_var, e_pk, e_tup, e_lst, e_bin, e_star, e_neg, e_cmp, e_isN, e_chain, e_and, e_or, e_not, e_ite, e_idx, e_slice, e_fld, e_call, e_blt, e_isi, e_join, e_comp, e_dcomp, e_dic0, e_cidx, e_cell, e_cget, e_clen, e_ccat, v_asg, v_asgO, v_unp, v_par, v_setI, v_setK, v_aug, v_app, v_exp, v_ret, v_retO, v_retN, v_ite, v_for_, v_pass, v_never, v_frz, v_cset, immAt, pkAt, MP.setI, ownAt, lstOwn, dicOwn, MP.setO, List.map_cons, List.map_nil, List.length_cons, List.length_nil, List.cons_append, List.nil_append, List.getElem?_cons_zero, List.getElem?_cons_succ, R.of_some, R.of_none, R.bind_ok, RS.of_ok, RS.seq_nx, RS.seq_ret, nc0, nc1, nc2, nc3, nc4, nc5, nc6, nc7, nc8, nc9, s_bind, s_map, s_eqI, s_neI, s_eqS, s_neS, atI_0, atI_1, atI_2, atI_3, s_int1, s_int2, s_max, s_mod, s_ix1, s_ix2, s_len1, s_len2, s_list1, s_list2, s_list3, s_tup1, s_tup2, decide_true, decide_false, if_true, if_false, s_ge, s_lt, s_le, s_gt, s_truth, List.set_cons_zero, List.set_cons_succ, s_mul, Bool.or_true, s_add1, s_add3, s_add4, s_sub, s_fdiv, Bool.and_true, Bool.false_eq_true, List.replicate, Nat.reduceAdd, Nat.reduceSub, Int.reduceAdd, Int.reduceSub, Int.reduceMul, fnL, constF, newCell, R.bind_stuck, b_law_steps, N_law_steps, mkL_of (xs := []) (n := 0) rfl (by decide), isFr, e1, er]
  refine Rt.seq (M := fun ρ s => ∃ xs k w v, ρ = [.imm (.ref 1), .imm (.int 5), .own (.lst xs), k, w, v, .no] ∧ StepsOk xs ∧ xs.length ≤ 5 ∧ HS s) ?_ ?_
  · refine Rt.imp (forS_run (fun ds ρ s => ∃ xs k w v, ρ = [.imm (.ref 1), .imm (.int 5), .own (.lst xs), k, w, v, .no] ∧ StepsOk xs ∧ xs.length + ds.length ≤ 5 ∧ HS s) ?_ ⟨[], _, _, _, rfl, ⟨by simp, by simp⟩, ?_, h1⟩) (fun ρ s ⟨xs, k, w, v, e, a, b, c⟩ => ⟨xs, k, w, v, e, a, by simpa using b, c⟩) fun _ _ h => h
    · rintro d ds _ s ⟨xs, k, w, v, rfl, hx, hl, hs⟩
      refine ⟨_, rfl, ?_⟩
      simp only [List.length_cons] at hl
      obtain ⟨wd, S2, e2, hw, h2⟩ := pick_ok (xs := [D.str "fill", .str "less", .str "put", .str "add", .str "fill", .str "times"]) hs (by decide) (by decide)
      obtain ⟨c1, S3, e3, hc1, h3⟩ := pick_ok (xs := [D.str "x", .str "y"]) h2 (by decide) (by decide)
      obtain ⟨c2, S4, e4, hc2, h4⟩ := pick_ok (xs := [D.str "x", .str "y"]) h3 (by decide) (by decide)
      obtain ⟨wt, S5, e5, hwt, h5⟩ := worth_ok h3
      have hp := ne_nil (xs := xs.filterMap gT) (plains_of fun d hd => by
        obtain ⟨a, ha, hb⟩ := List.mem_filterMap.mp hd
        unfold gT at hb
        split at hb
        · cases hb; exact (hx.all _ ha).plain 61
        · cases hb)
      have hB : xs.length < BIG := by rw [BIGv]; omega
      have hcmp := times_comp (fn := fnL [F_law_next, F_law_pick, F_law_worth]) (a := .imm (.ref 1)) (b := .imm (.int 5)) (c := .own (.lst xs)) (k := .imm d) (w := .imm (.lst [D.str "fill", .str "less", .str "put", .str "add", .str "fill", .str "times"])) (v := .imm wd) (s := S2) hx.all
      have hL0 := mkL_of (xs := []) (n := 0) rfl (by decide)
      have hL2 := mkL_of (xs := [D.str "x", .str "y"]) (n := 2) rfl (by decide)
      have hL6 := mkL_of (xs := [D.str "fill", .str "less", .str "put", .str "add", .str "fill", .str "times"]) (n := 6) rfl (by decide)
      have hT1 : ∀ x y z : D, mkTup [x, y, z] = some (.tup [x, y, z]) := fun x y z => mkT_of (n := 3) rfl (by decide)
      have ha : ∀ x, dApp xs x = some (.lst (xs ++ [x])) := fun x => if_pos hB
      have fin : ∀ (t : D) (k w v : Slot) (s' : Sto), IsSt t → (isT t = true → xs.filterMap gT = []) → HS s' → Rt (RS.nx [.imm (.ref 1), .imm (.int 5), .own (.lst (xs ++ [t])), k, w, v, .no] s') (fun ρ s => ∃ xs k w v, ρ = [.imm (.ref 1), .imm (.int 5), .own (.lst xs), k, w, v, .no] ∧ StepsOk xs ∧ xs.length + ds.length ≤ 5 ∧ HS s) (fun d S' => (∃ xs, d = .lst xs ∧ StepsOk xs ∧ xs.length ≤ 5) ∧ HS S') :=
        fun t k w v s' q1 q2 q3 => Rt.nx ⟨xs ++ [t], k, w, v, rfl, hx.snoc q1 q2, by rw [List.length_append]; simp; omega, q3⟩
      simp at hw hc1 hc2
      rcases hw with rfl | rfl | rfl | rfl | rfl | rfl
      all_goals simp only [evDef, startE, evSs, evEs, evO, evIf, evSrc, s_it1, s_it2, s_it3, e_lit, e_glob, e_var, e_pk, e_tup, e_lst, e_bin, e_star, e_neg, e_cmp, e_isN, e_chain, e_and, e_or, e_not, e_ite, e_idx, e_slice, e_fld, e_call, e_blt, e_isi, e_join, e_comp, e_dcomp, e_dic0, e_cidx, e_cell, e_cget, e_clen, e_ccat, v_asg, v_asgO, v_unp, v_par, v_setI, v_setK, v_aug, v_app, v_exp, v_ret, v_retO, v_retN, v_ite, v_for_, v_pass, v_never, v_frz, v_cset, immAt, pkAt, MP.setI, ownAt, lstOwn, dicOwn, MP.setO, List.map_cons, List.map_nil, List.length_cons, List.length_nil, List.cons_append, List.nil_append, List.getElem?_cons_zero, List.getElem?_cons_succ, R.of_some, R.of_none, R.bind_ok, RS.of_ok, RS.seq_nx, RS.seq_ret, nc0, nc1, nc2, nc3, nc4, nc5, nc6, nc7, nc8, nc9, s_bind, s_map, s_eqI, s_neI, s_eqS, s_neS, atI_0, atI_1, atI_2, atI_3, s_int1, s_int2, s_max, s_mod, s_ix1, s_ix2, s_len1, s_len2, s_list1, s_list2, s_list3, s_tup1, s_tup2, decide_true, decide_false, if_true, if_false, s_ge, s_lt, s_le, s_gt, s_truth, List.set_cons_zero, List.set_cons_succ, s_mul, Bool.or_true, s_add1, s_add3, s_add4, s_sub, s_fdiv, Bool.and_true, Bool.false_eq_true, List.replicate, Nat.reduceAdd, Nat.reduceSub, Int.reduceAdd, Int.reduceSub, Int.reduceMul, fnL, constF, newCell, R.bind_stuck, hL6, e2, hL0, hL2, e3, e4, e5, hT1, ha, hcmp, hp, (by decide : ¬ ("fill" : Str) = "times"), (by decide : ¬ ("less" : Str) = "times"), (by decide : ¬ ("put" : Str) = "times"), (by decide : ¬ ("add" : Str) = "times"), (by decide : ¬ ("fill" : Str) = "add"), (by decide : ¬ ("less" : Str) = "add"), (by decide : ¬ ("put" : Str) = "add"), (by decide : ¬ ("times" : Str) = "add")]
      · rcases hc1 with rfl | rfl <;> exact fin _ _ _ _ _ (.put (by simp) (by simp) hwt) (fun q => by cases q) h5
      · rcases hc1 with rfl | rfl <;> exact fin _ _ _ _ _ (.put (by simp) (by simp) hwt) (fun q => by cases q) h5
      · rcases hc1 with rfl | rfl <;> exact fin _ _ _ _ _ (.put (by simp) (by simp) hwt) (fun q => by cases q) h5
      · rcases hc1 with rfl | rfl <;> rcases hc2 with rfl | rfl <;> exact fin _ _ _ _ _ (.add (by simp) (by simp)) (fun q => by cases q) h4
      · rcases hc1 with rfl | rfl <;> exact fin _ _ _ _ _ (.put (by simp) (by simp) hwt) (fun q => by cases q) h5
      · cases hf : xs.filterMap gT with
        | nil =>
          simp only [evDef, startE, evSs, evEs, evO, evIf, evSrc, s_it1, s_it2, s_it3, e_lit, e_glob, e_var, e_pk, e_tup, e_lst, e_bin, e_star, e_neg, e_cmp, e_isN, e_chain, e_and, e_or, e_not, e_ite, e_idx, e_slice, e_fld, e_call, e_blt, e_isi, e_join, e_comp, e_dcomp, e_dic0, e_cidx, e_cell, e_cget, e_clen, e_ccat, v_asg, v_asgO, v_unp, v_par, v_setI, v_setK, v_aug, v_app, v_exp, v_ret, v_retO, v_retN, v_ite, v_for_, v_pass, v_never, v_frz, v_cset, immAt, pkAt, MP.setI, ownAt, lstOwn, dicOwn, MP.setO, List.map_cons, List.map_nil, List.length_cons, List.length_nil, List.cons_append, List.nil_append, List.getElem?_cons_zero, List.getElem?_cons_succ, R.of_some, R.of_none, R.bind_ok, RS.of_ok, RS.seq_nx, RS.seq_ret, nc0, nc1, nc2, nc3, nc4, nc5, nc6, nc7, nc8, nc9, s_bind, s_map, s_eqI, s_neI, s_eqS, s_neS, atI_0, atI_1, atI_2, atI_3, s_int1, s_int2, s_max, s_mod, s_ix1, s_ix2, s_len1, s_len2, s_list1, s_list2, s_list3, s_tup1, s_tup2, decide_true, decide_false, if_true, if_false, s_ge, s_lt, s_le, s_gt, s_truth, List.set_cons_zero, List.set_cons_succ, s_mul, Bool.or_true, s_add1, s_add3, s_add4, s_sub, s_fdiv, Bool.and_true, Bool.false_eq_true, List.replicate, Nat.reduceAdd, Nat.reduceSub, Int.reduceAdd, Int.reduceSub, Int.reduceMul, fnL, constF, newCell, R.bind_stuck, List.isEmpty_nil, Bool.not_true, hL2, e3, e5, hT1, ha, (by decide : ¬ ("times" : Str) = "add")]
          rcases hc1 with rfl | rfl <;> exact fin _ _ _ _ _ (.put (by simp) (by simp) hwt) (fun q => hf) h5
        | cons z zs =>
          simp only [evDef, startE, evSs, evEs, evO, evIf, evSrc, s_it1, s_it2, s_it3, e_lit, e_glob, e_var, e_pk, e_tup, e_lst, e_bin, e_star, e_neg, e_cmp, e_isN, e_chain, e_and, e_or, e_not, e_ite, e_idx, e_slice, e_fld, e_call, e_blt, e_isi, e_join, e_comp, e_dcomp, e_dic0, e_cidx, e_cell, e_cget, e_clen, e_ccat, v_asg, v_asgO, v_unp, v_par, v_setI, v_setK, v_aug, v_app, v_exp, v_ret, v_retO, v_retN, v_ite, v_for_, v_pass, v_never, v_frz, v_cset, immAt, pkAt, MP.setI, ownAt, lstOwn, dicOwn, MP.setO, List.map_cons, List.map_nil, List.length_cons, List.length_nil, List.cons_append, List.nil_append, List.getElem?_cons_zero, List.getElem?_cons_succ, R.of_some, R.of_none, R.bind_ok, RS.of_ok, RS.seq_nx, RS.seq_ret, nc0, nc1, nc2, nc3, nc4, nc5, nc6, nc7, nc8, nc9, s_bind, s_map, s_eqI, s_neI, s_eqS, s_neS, atI_0, atI_1, atI_2, atI_3, s_int1, s_int2, s_max, s_mod, s_ix1, s_ix2, s_len1, s_len2, s_list1, s_list2, s_list3, s_tup1, s_tup2, decide_true, decide_false, if_true, if_false, s_ge, s_lt, s_le, s_gt, s_truth, List.set_cons_zero, List.set_cons_succ, s_mul, Bool.or_true, s_add1, s_add3, s_add4, s_sub, s_fdiv, Bool.and_true, Bool.false_eq_true, List.replicate, Nat.reduceAdd, Nat.reduceSub, Int.reduceAdd, Int.reduceSub, Int.reduceMul, fnL, constF, newCell, R.bind_stuck, List.isEmpty_cons, Bool.not_false, hL2, e3, e5, hT1, ha, (by decide : ¬ ("less" : Str) = "add")]
          rcases hc1 with rfl | rfl <;> exact fin _ _ _ _ _ (.put (by simp) (by simp) hwt) (fun q => by cases q) h5
    · simp [rngItems]; omega
  · rintro ρ s ⟨xs, k, w, v, rfl, hx, hl, hs⟩
    simp only [evDef, startE, evSs, evEs, evO, evIf, evSrc, s_it1, s_it2, s_it3, e_lit, e_glob, e_var, e_pk, e_tup, e_lst, e_bin, e_star, e_neg, e_cmp, e_isN, e_chain, e_and, e_or, e_not, e_ite, e_idx, e_slice, e_fld, e_call, e_blt, e_isi, e_join, e_comp, e_dcomp, e_dic0, e_cidx, e_cell, e_cget, e_clen, e_ccat, v_asg, v_asgO, v_unp, v_par, v_setI, v_setK, v_aug, v_app, v_exp, v_ret, v_retO, v_retN, v_ite, v_for_, v_pass, v_never, v_frz, v_cset, immAt, pkAt, MP.setI, ownAt, lstOwn, dicOwn, MP.setO, List.map_cons, List.map_nil, List.length_cons, List.length_nil, List.cons_append, List.nil_append, List.getElem?_cons_zero, List.getElem?_cons_succ, R.of_some, R.of_none, R.bind_ok, RS.of_ok, RS.seq_nx, RS.seq_ret, nc0, nc1, nc2, nc3, nc4, nc5, nc6, nc7, nc8, nc9, s_bind, s_map, s_eqI, s_neI, s_eqS, s_neS, atI_0, atI_1, atI_2, atI_3, s_int1, s_int2, s_max, s_mod, s_ix1, s_ix2, s_len1, s_len2, s_list1, s_list2, s_list3, s_tup1, s_tup2, decide_true, decide_false, if_true, if_false, s_ge, s_lt, s_le, s_gt, s_truth, List.set_cons_zero, List.set_cons_succ, s_mul, Bool.or_true, s_add1, s_add3, s_add4, s_sub, s_fdiv, Bool.and_true, Bool.false_eq_true, List.replicate, Nat.reduceAdd, Nat.reduceSub, Int.reduceAdd, Int.reduceSub, Int.reduceMul, fnL, constF, newCell, R.bind_stuck]
    exact Rt.ret ⟨⟨xs, rfl, hx, hl⟩, hs⟩
end Gk15

namespace Gk15
open PySem MP
/-- a comprehension without tests whose items draw -/
theorem compS_any {fn : Nat → FS} {own : List Nat} {tg : Tg} {elt : E} {ρ : Env'} (I : Sto → Prop) (P : D → Prop) : ∀ {ds : List D} {s : Sto}, (∀ d ∈ ds, ∃ ρ', bindTg (wipeE ρ own) tg d = some ρ' ∧ ∀ s, I s → Rs (evE fn ρ' elt s) fun e s' => P e ∧ I s') → I s → Rs (compS fn own tg none elt ρ ds s) fun es s' => es.length = ds.length ∧ (∀ e ∈ es, P e) ∧ I s'
  | [], s, _, h => ⟨[], s, rfl, rfl, by simp, h⟩
  | d :: ds, s, h, hs => by
    obtain ⟨ρ', e, q⟩ := h d List.mem_cons_self
    obtain ⟨x, s1, e1, p1, i1⟩ := q s hs
    obtain ⟨es, s2, e2, l2, p2, i2⟩ := compS_any I P (ρ := ρ) (ds := ds) (fun x hx => h x (List.mem_cons_of_mem d hx)) i1
    refine ⟨x :: es, s2, ?_, by simp [l2], fun y hy => ?_, i2⟩
    · unfold compS at e2 ⊢
      simp only [evIf, R.bind_ok, if_true] at e2
      simp only [compLoop, e, R.of_some, R.bind_ok, evIf, if_true, e1, R.nox_ok, e2]
    · rcases List.mem_cons.mp hy with rfl | hy
      · exact p1
      · exact p2 y hy
def IsE (d : D) : Prop := d = .non ∨ ∃ i, d = .int i
def IsHeld (x : Str) : Prop := x = "a" ∨ x = "b" ∨ x = "c" ∨ x = "ab" ∨ x = "ac" ∨ x = "bc"
def IsCols (x : Str) : Prop := x = "x" ∨ x = "y" ∨ x = "xy"
def IsMk (x : Str) : Prop := x = "a" ∨ x = "b" ∨ x = "c"
theorem entry_ok {S : Sto} (h : HS S) : Rs (F_law_entry [.ref 1] S) fun d S' => IsE d ∧ HS S' := by
  obtain ⟨_, S1, e1, r, rfl, a1, b1, h1⟩ := next_ok (cap := 9) h (by decide) (by decide)
  obtain ⟨x, t1, t2⟩ := atI_pos (xs := [D.non, .int 0, .int 1, .int (-2), .int 3, .int 7, .non, .int 20, .int (-5)]) a1 (by simpa using b1)
  have hx := List.mem_of_getElem? t2
  simp only [evDef, startE, evSs, evEs, evO, evIf, evSrc, s_it1, s_it2, s_it3, e_lit, e_glob, e_var, e_pk, e_tup, e_lst, e_bin, e_star, e_neg, e_cmp, e_isN, e_chain, e_and, e_or, e_not, e_ite, e_idx, e_slice, e_fld, e_call, e_blt, e_isi, e_join, e_comp, e_dcomp, e_dic0, e_cidx, e_cell, e_cget, e_clen, e_ccat, v_asg, v_asgO, v_unp, v_par, v_setI, v_setK, v_aug, v_app, v_exp, v_ret, v_retO, v_retN, v_ite, v_for_, v_pass, v_never, v_frz, v_cset, immAt, pkAt, MP.setI, ownAt, lstOwn, dicOwn, MP.setO, List.map_cons, List.map_nil, List.length_cons, List.length_nil, List.cons_append, List.nil_append, List.getElem?_cons_zero, List.getElem?_cons_succ, R.of_some, R.of_none, R.bind_ok, RS.of_ok, RS.seq_nx, RS.seq_ret, nc0, nc1, nc2, nc3, nc4, nc5, nc6, nc7, nc8, nc9, s_bind, s_map, s_eqI, s_neI, s_eqS, s_neS, atI_0, atI_1, atI_2, atI_3, s_int1, s_int2, s_max, s_mod, s_ix1, s_ix2, s_len1, s_len2, s_list1, s_list2, s_list3, s_tup1, s_tup2, decide_true, decide_false, if_true, if_false, s_ge, s_lt, s_le, s_gt, s_truth, List.set_cons_zero, List.set_cons_succ, s_mul, Bool.or_true, s_add1, s_add3, s_add4, s_sub, s_fdiv, Bool.and_true, Bool.false_eq_true, List.replicate, Nat.reduceAdd, Nat.reduceSub, Int.reduceAdd, Int.reduceSub, Int.reduceMul, fnL, constF, newCell, R.bind_stuck, F_law_entry, b_law_entry, N_law_entry, mkL_of (xs := [D.non, .int 0, .int 1, .int (-2), .int 3, .int 7, .non, .int 20, .int (-5)]) (n := 9) rfl (by decide), e1, t1]
  refine Rs.ok ⟨?_, h1⟩
  simp at hx
  rcases hx with rfl | rfl | rfl | rfl | rfl | rfl | rfl | rfl | rfl <;> first | exact .inl rfl | exact .inr ⟨_, rfl⟩
inductive IsRow : D → Prop
  | mk {m : Str} {x y : D} : IsMk m → IsE x → IsE y → IsRow (.tup [.str m, x, y])
theorem table_ok {S : Sto} {n : Int} (h : HS S) (h0 : 0 ≤ n) (h9 : n ≤ 9) : Rs (F_law_table [.ref 1, .int n] S) fun d S' => (∃ rs, d = .lst rs ∧ (∀ r ∈ rs, IsRow r) ∧ rs.length ≤ 9) ∧ HS S' := by
  obtain ⟨_, S1, e1, r, rfl, a1, b1, h1⟩ := next_ok (cap := n + 1) h (by omega) (by omega)
  have er : dRng [.int r] = some (rngItems 0 r.toNat) := by
    have q : (decide (-(2 ^ 62) ≤ r) && decide (r ≤ BIG)) = true := by rw [BIGv]; simp; omega
    exact if_pos q
  obtain ⟨es, S2, e2, l2, p2, h2⟩ := compS_any (fn := fnL [F_law_next, F_law_pick, F_law_entry]) (own := [2]) (tg := .one 2) (elt := .tup [.call 1 [.var 0, .lst [.lit (.str "a"), .lit (.str "b"), .lit (.str "c")]], .call 2 [.var 0], .call 2 [.var 0]]) (ρ := [.imm (.ref 1), .imm (.int n), .no]) HS IsRow (ds := rngItems 0 r.toNat) (s := S1) (fun d hd => ⟨_, rfl, fun s hs => by
    obtain ⟨m, s1, q1, hm, hs1⟩ := pick_ok (xs := [D.str "a", .str "b", .str "c"]) hs (by decide) (by decide)
    obtain ⟨x, s2, q2, hx, hs2⟩ := entry_ok hs1
    obtain ⟨y, s3, q3, hy, hs3⟩ := entry_ok hs2
    simp only [evDef, startE, evSs, evEs, evO, evIf, evSrc, s_it1, s_it2, s_it3, e_lit, e_glob, e_var, e_pk, e_tup, e_lst, e_bin, e_star, e_neg, e_cmp, e_isN, e_chain, e_and, e_or, e_not, e_ite, e_idx, e_slice, e_fld, e_call, e_blt, e_isi, e_join, e_comp, e_dcomp, e_dic0, e_cidx, e_cell, e_cget, e_clen, e_ccat, v_asg, v_asgO, v_unp, v_par, v_setI, v_setK, v_aug, v_app, v_exp, v_ret, v_retO, v_retN, v_ite, v_for_, v_pass, v_never, v_frz, v_cset, immAt, pkAt, MP.setI, ownAt, lstOwn, dicOwn, MP.setO, List.map_cons, List.map_nil, List.length_cons, List.length_nil, List.cons_append, List.nil_append, List.getElem?_cons_zero, List.getElem?_cons_succ, R.of_some, R.of_none, R.bind_ok, RS.of_ok, RS.seq_nx, RS.seq_ret, nc0, nc1, nc2, nc3, nc4, nc5, nc6, nc7, nc8, nc9, s_bind, s_map, s_eqI, s_neI, s_eqS, s_neS, atI_0, atI_1, atI_2, atI_3, s_int1, s_int2, s_max, s_mod, s_ix1, s_ix2, s_len1, s_len2, s_list1, s_list2, s_list3, s_tup1, s_tup2, decide_true, decide_false, if_true, if_false, s_ge, s_lt, s_le, s_gt, s_truth, List.set_cons_zero, List.set_cons_succ, s_mul, Bool.or_true, s_add1, s_add3, s_add4, s_sub, s_fdiv, Bool.and_true, Bool.false_eq_true, List.replicate, Nat.reduceAdd, Nat.reduceSub, Int.reduceAdd, Int.reduceSub, Int.reduceMul, fnL, constF, newCell, R.bind_stuck, wipeE, mkL_of (xs := [D.str "a", .str "b", .str "c"]) (n := 3) rfl (by decide), q1, q2, q3, mkT_of (xs := [m, x, y]) (n := 3) rfl (by decide)]
    refine Rs.ok ⟨?_, hs3⟩
    simp at hm
    rcases hm with rfl | rfl | rfl <;> exact .mk (by simp [IsMk]) hx hy⟩) h1
  simp only [evDef, startE, evSs, evEs, evO, evIf, evSrc, s_it1, s_it2, s_it3, e_lit, e_glob, e_var, e_pk, e_tup, e_lst, e_bin, e_star, e_neg, e_cmp, e_isN, e_chain, e_and, e_or, e_not, e_ite, e_idx, e_slice, e_fld, e_call, e_blt, e_isi, e_join, e_comp, e_dcomp, e_dic0, e_cidx, e_cell, e_cget, e_clen, e_ccat, v_asg, v_asgO, v_unp, v_par, v_setI, v_setK, v_aug, v_app, v_exp, v_ret, v_retO, v_retN, v_ite, v_for_, v_pass, v_never, v_frz, v_cset, immAt, pkAt, MP.setI, ownAt, lstOwn, dicOwn, MP.setO, List.map_cons, List.map_nil, List.length_cons, List.length_nil, List.cons_append, List.nil_append, List.getElem?_cons_zero, List.getElem?_cons_succ, R.of_some, R.of_none, R.bind_ok, RS.of_ok, RS.seq_nx, RS.seq_ret, nc0, nc1, nc2, nc3, nc4, nc5, nc6, nc7, nc8, nc9, s_bind, s_map, s_eqI, s_neI, s_eqS, s_neS, atI_0, atI_1, atI_2, atI_3, s_int1, s_int2, s_max, s_mod, s_ix1, s_ix2, s_len1, s_len2, s_list1, s_list2, s_list3, s_tup1, s_tup2, decide_true, decide_false, if_true, if_false, s_ge, s_lt, s_le, s_gt, s_truth, List.set_cons_zero, List.set_cons_succ, s_mul, Bool.or_true, s_add1, s_add3, s_add4, s_sub, s_fdiv, Bool.and_true, Bool.false_eq_true, List.replicate, Nat.reduceAdd, Nat.reduceSub, Int.reduceAdd, Int.reduceSub, Int.reduceMul, fnL, constF, newCell, R.bind_stuck, F_law_table, b_law_table, N_law_table, e1, er, e2]
  exact Rs.ok ⟨⟨es, rfl, p2, by rw [l2]; simp [rngItems]; omega⟩, h2⟩
theorem parts_ok {S : Sto} (h : HS S) : Rs (F_law_parts [.ref 1, .int 5] S) fun d S' => (∃ hd xs cs, d = .tup [.str hd, .lst xs, .str cs] ∧ IsHeld hd ∧ StepsOk xs ∧ xs.length ≤ 5 ∧ IsCols cs) ∧ HS S' := by
  obtain ⟨a, S1, e1, p1, h1⟩ := pick_ok (xs := [D.str "a", .str "b", .str "c", .str "ab", .str "ac", .str "bc"]) h (by decide) (by decide)
  obtain ⟨_, S2, e2, ⟨xs, rfl, p2, p3⟩, h2⟩ := steps_ok h1
  obtain ⟨c, S3, e3, p4, h3⟩ := pick_ok (xs := [D.str "x", .str "y", .str "xy"]) h2 (by decide) (by decide)
  simp only [evDef, startE, evSs, evEs, evO, evIf, evSrc, s_it1, s_it2, s_it3, e_lit, e_glob, e_var, e_pk, e_tup, e_lst, e_bin, e_star, e_neg, e_cmp, e_isN, e_chain, e_and, e_or, e_not, e_ite, e_idx, e_slice, e_fld, e_call, e_blt, e_isi, e_join, e_comp, e_dcomp, e_dic0, e_cidx, e_cell, e_cget, e_clen, e_ccat, v_asg, v_asgO, v_unp, v_par, v_setI, v_setK, v_aug, v_app, v_exp, v_ret, v_retO, v_retN, v_ite, v_for_, v_pass, v_never, v_frz, v_cset, immAt, pkAt, MP.setI, ownAt, lstOwn, dicOwn, MP.setO, List.map_cons, List.map_nil, List.length_cons, List.length_nil, List.cons_append, List.nil_append, List.getElem?_cons_zero, List.getElem?_cons_succ, R.of_some, R.of_none, R.bind_ok, RS.of_ok, RS.seq_nx, RS.seq_ret, nc0, nc1, nc2, nc3, nc4, nc5, nc6, nc7, nc8, nc9, s_bind, s_map, s_eqI, s_neI, s_eqS, s_neS, atI_0, atI_1, atI_2, atI_3, s_int1, s_int2, s_max, s_mod, s_ix1, s_ix2, s_len1, s_len2, s_list1, s_list2, s_list3, s_tup1, s_tup2, decide_true, decide_false, if_true, if_false, s_ge, s_lt, s_le, s_gt, s_truth, List.set_cons_zero, List.set_cons_succ, s_mul, Bool.or_true, s_add1, s_add3, s_add4, s_sub, s_fdiv, Bool.and_true, Bool.false_eq_true, List.replicate, Nat.reduceAdd, Nat.reduceSub, Int.reduceAdd, Int.reduceSub, Int.reduceMul, fnL, constF, newCell, R.bind_stuck, F_law_parts, b_law_parts, N_law_parts, mkL_of (xs := [D.str "a", .str "b", .str "c", .str "ab", .str "ac", .str "bc"]) (n := 6) rfl (by decide), mkL_of (xs := [D.str "x", .str "y", .str "xy"]) (n := 3) rfl (by decide), e1, e2, e3, mkT_of (xs := [a, .lst xs, c]) (n := 3) rfl (by decide)]
  refine Rs.ok ⟨?_, h3⟩
  simp at p1 p4
  rcases p1 with rfl | rfl | rfl | rfl | rfl | rfl <;> rcases p4 with rfl | rfl | rfl <;> exact ⟨_, xs, _, rfl, by simp [IsHeld], p2, p3, by simp [IsCols]⟩
end Gk15

namespace Gk15
open PySem MP
theorem held_ok {x : Str} (h : IsHeld x) (S : Sto) : F_check_held [.str x] S = .ok .non S := by
  rcases h with rfl | rfl | rfl | rfl | rfl | rfl
  all_goals kernel_rfl
theorem int_ok (i : Int) (h : -9 ≤ i) (h' : i ≤ 9) (S : Sto) : F_is_integer [.int i, .int (-9), .int 9] S = .ok (.bl true) S := by
  simp only [evDef, startE, evSs, evEs, evO, evIf, evSrc, s_it1, s_it2, s_it3, e_lit, e_glob, e_var, e_pk, e_tup, e_lst, e_bin, e_star, e_neg, e_cmp, e_isN, e_chain, e_and, e_or, e_not, e_ite, e_idx, e_slice, e_fld, e_call, e_blt, e_isi, e_join, e_comp, e_dcomp, e_dic0, e_cidx, e_cell, e_cget, e_clen, e_ccat, v_asg, v_asgO, v_unp, v_par, v_setI, v_setK, v_aug, v_app, v_exp, v_ret, v_retO, v_retN, v_ite, v_for_, v_pass, v_never, v_frz, v_cset, immAt, pkAt, MP.setI, ownAt, lstOwn, dicOwn, MP.setO, List.map_cons, List.map_nil, List.length_cons, List.length_nil, List.cons_append, List.nil_append, List.getElem?_cons_zero, List.getElem?_cons_succ, R.of_some, R.of_none, R.bind_ok, RS.of_ok, RS.seq_nx, RS.seq_ret, nc0, nc1, nc2, nc3, nc4, nc5, nc6, nc7, nc8, nc9, s_bind, s_map, s_eqI, s_neI, s_eqS, s_neS, atI_0, atI_1, atI_2, atI_3, s_int1, s_int2, s_max, s_mod, s_ix1, s_ix2, s_len1, s_len2, s_list1, s_list2, s_list3, s_tup1, s_tup2, decide_true, decide_false, if_true, if_false, s_ge, s_lt, s_le, s_gt, s_truth, List.set_cons_zero, List.set_cons_succ, s_mul, Bool.or_true, s_add1, s_add3, s_add4, s_sub, s_fdiv, Bool.and_true, Bool.false_eq_true, List.replicate, Nat.reduceAdd, Nat.reduceSub, Int.reduceAdd, Int.reduceSub, Int.reduceMul, fnL, constF, newCell, R.bind_stuck, F_is_integer, b_is_integer, N_is_integer, isTys, List.any_cons, List.any_nil, isTy, dNot, Bool.or_false, Bool.not_true, isNb, Bool.not_false, h, h', s_ge, s_le]
theorem col_ok {x : Str} (h : x = "x" ∨ x = "y") (S : Sto) : F_is_word [.str x, .tup [.str "x", .str "y"]] S = .ok (.bl true) S := by
  rcases h with rfl | rfl
  all_goals rfl
theorem told_ok {x : Str} (h : IsCols x) (S : Sto) : F_is_word [.str x, .tup [.str "x", .str "y", .str "xy"]] S = .ok (.bl true) S := by
  rcases h with rfl | rfl | rfl
  all_goals rfl
theorem isw_ok {d : D} (h : IsW d) (S : Sto) : F_is_worth [d] S = .ok (.bl true) S := by
  cases h with
  | @int i h h' =>
    have := int_ok i h h' S
    simp only [evDef, startE, evSs, evEs, evO, evIf, evSrc, s_it1, s_it2, s_it3, e_lit, e_glob, e_var, e_pk, e_tup, e_lst, e_bin, e_star, e_neg, e_cmp, e_isN, e_chain, e_and, e_or, e_not, e_ite, e_idx, e_slice, e_fld, e_call, e_blt, e_isi, e_join, e_comp, e_dcomp, e_dic0, e_cidx, e_cell, e_cget, e_clen, e_ccat, v_asg, v_asgO, v_unp, v_par, v_setI, v_setK, v_aug, v_app, v_exp, v_ret, v_retO, v_retN, v_ite, v_for_, v_pass, v_never, v_frz, v_cset, immAt, pkAt, MP.setI, ownAt, lstOwn, dicOwn, MP.setO, List.map_cons, List.map_nil, List.length_cons, List.length_nil, List.cons_append, List.nil_append, List.getElem?_cons_zero, List.getElem?_cons_succ, R.of_some, R.of_none, R.bind_ok, RS.of_ok, RS.seq_nx, RS.seq_ret, nc0, nc1, nc2, nc3, nc4, nc5, nc6, nc7, nc8, nc9, s_bind, s_map, s_eqI, s_neI, s_eqS, s_neS, atI_0, atI_1, atI_2, atI_3, s_int1, s_int2, s_max, s_mod, s_ix1, s_ix2, s_len1, s_len2, s_list1, s_list2, s_list3, s_tup1, s_tup2, decide_true, decide_false, if_true, if_false, s_ge, s_lt, s_le, s_gt, s_truth, List.set_cons_zero, List.set_cons_succ, s_mul, Bool.or_true, s_add1, s_add3, s_add4, s_sub, s_fdiv, Bool.and_true, Bool.false_eq_true, List.replicate, Nat.reduceAdd, Nat.reduceSub, Int.reduceAdd, Int.reduceSub, Int.reduceMul, fnL, constF, newCell, R.bind_stuck, F_is_worth, b_is_worth, N_is_worth, Int.reduceNeg, this]
  | @tup w c s b h1 h2 h3 =>
    rcases h1 with rfl | rfl <;> rcases h2 with rfl | rfl <;> rcases h3 with rfl | rfl | rfl <;> rfl
theorem in_w {w : Str} (h : w = "fill" ∨ w = "less" ∨ w = "put" ∨ w = "times") : dCmp .in_ (.str w) (.tup [.str "fill", .str "less", .str "times", .str "put"]) = some true := by
  rcases h with rfl | rfl | rfl | rfl
  all_goals rfl
theorem isst_ok {d : D} (h : IsSt d) (S : Sto) : F_is_step [d] S = .ok (.bl true) S := by
  cases h with
  | add h1 h2 => rcases h1 with rfl | rfl <;> rcases h2 with rfl | rfl <;> rfl
  | @put w c v h1 h2 h3 =>
    have := isw_ok h3 S
    have q := col_ok h2 S
    have hw := in_w h1
    rcases h1 with rfl | rfl | rfl | rfl
    all_goals simp only [evDef, startE, evSs, evEs, evO, evIf, evSrc, s_it1, s_it2, s_it3, e_lit, e_glob, e_var, e_pk, e_tup, e_lst, e_bin, e_star, e_neg, e_cmp, e_isN, e_chain, e_and, e_or, e_not, e_ite, e_idx, e_slice, e_fld, e_call, e_blt, e_isi, e_join, e_comp, e_dcomp, e_dic0, e_cidx, e_cell, e_cget, e_clen, e_ccat, v_asg, v_asgO, v_unp, v_par, v_setI, v_setK, v_aug, v_app, v_exp, v_ret, v_retO, v_retN, v_ite, v_for_, v_pass, v_never, v_frz, v_cset, immAt, pkAt, MP.setI, ownAt, lstOwn, dicOwn, MP.setO, List.map_cons, List.map_nil, List.length_cons, List.length_nil, List.cons_append, List.nil_append, List.getElem?_cons_zero, List.getElem?_cons_succ, R.of_some, R.of_none, R.bind_ok, RS.of_ok, RS.seq_nx, RS.seq_ret, nc0, nc1, nc2, nc3, nc4, nc5, nc6, nc7, nc8, nc9, s_bind, s_map, s_eqI, s_neI, s_eqS, s_neS, atI_0, atI_1, atI_2, atI_3, s_int1, s_int2, s_max, s_mod, s_ix1, s_ix2, s_len1, s_len2, s_list1, s_list2, s_list3, s_tup1, s_tup2, decide_true, decide_false, if_true, if_false, s_ge, s_lt, s_le, s_gt, s_truth, List.set_cons_zero, List.set_cons_succ, s_mul, Bool.or_true, s_add1, s_add3, s_add4, s_sub, s_fdiv, Bool.and_true, Bool.false_eq_true, List.replicate, Nat.reduceAdd, Nat.reduceSub, Int.reduceAdd, Int.reduceSub, Int.reduceMul, fnL, constF, newCell, R.bind_stuck, Bool.not_false, F_is_step, b_is_step, N_is_step, isTys, List.any_cons, List.any_nil, isTy, dNot, Bool.or_false, Bool.not_true, Bool.not_false, this, q, hw, (by decide : ¬ ("fill" : Str) = "add"), (by decide : ¬ ("less" : Str) = "add"), (by decide : ¬ ("put" : Str) = "add"), (by decide : ¬ ("times" : Str) = "add")]
theorem nT : ∀ {d : D}, isT d = true → ∃ ds, d = .tup (.str "times" :: ds)
  | .tup (.str w :: ds), h => ⟨ds, by simp [isT] at h; rw [h]⟩
theorem st_w {y : D} (h : IsSt y) : ∃ w, dIdx y (.int 0) = some (.str w) ∧ decide (w = ("times" : Str)) = isT y := by cases h <;> exact ⟨_, rfl, rfl⟩
theorem steps_run {xs : List D} (hx : StepsOk xs) (hl : xs.length ≤ 5) (S : Sto) : F_check_steps [.lst xs] S = .ok .non S := by
  have run : Rs (F_check_steps [.lst xs] S) fun d S' => d = .non ∧ S' = S := by
    refine def_run ?_
    simp only [evDef, startE, evSs, evEs, evO, evIf, evSrc, s_it1, s_it2, s_it3, e_lit, e_glob, e_var, e_pk, e_tup, e_lst, e_bin, e_star, e_neg, e_cmp, e_isN, e_chain, e_and, e_or, e_not, e_ite, e_idx, e_slice, e_fld, e_call, e_blt, e_isi, e_join, e_comp, e_dcomp, e_dic0, e_cidx, e_cell, e_cget, e_clen, e_ccat, v_asg, v_asgO, v_unp, v_par, v_setI, v_setK, v_aug, v_app, v_exp, v_ret, v_retO, v_retN, v_ite, v_for_, v_pass, v_never, v_frz, v_cset, immAt, pkAt, MP.setI, ownAt, lstOwn, dicOwn, MP.setO, List.map_cons, List.map_nil, List.length_cons, List.length_nil, List.cons_append, List.nil_append, List.getElem?_cons_zero, List.getElem?_cons_succ, R.of_some, R.of_none, R.bind_ok, RS.of_ok, RS.seq_nx, RS.seq_ret, nc0, nc1, nc2, nc3, nc4, nc5, nc6, nc7, nc8, nc9, s_bind, s_map, s_eqI, s_neI, s_eqS, s_neS, atI_0, atI_1, atI_2, atI_3, s_int1, s_int2, s_max, s_mod, s_ix1, s_ix2, s_len1, s_len2, s_list1, s_list2, s_list3, s_tup1, s_tup2, decide_true, decide_false, if_true, if_false, s_ge, s_lt, s_le, s_gt, s_truth, List.set_cons_zero, List.set_cons_succ, s_mul, Bool.or_true, s_add1, s_add3, s_add4, s_sub, s_fdiv, Bool.and_true, Bool.false_eq_true, List.replicate, Nat.reduceAdd, Nat.reduceSub, Int.reduceAdd, Int.reduceSub, Int.reduceMul, fnL, constF, newCell, R.bind_stuck, b_check_steps, N_check_steps, isTys, List.any_cons, List.any_nil, isTy, dNot, Bool.or_false, Bool.true_or, Bool.not_true, lstItems]
    refine Rt.seq (M := fun _ s => s = S) (Rt.imp (forS_run (fun ds ρ s => ∃ (k : Nat) (ys : List D) (t : Int) (a b : Slot), ds = enumFrom' k ys ∧ ρ = [.imm (.lst xs), .imm (.int t), a, b] ∧ k + ys.length ≤ 5 ∧ (∀ d ∈ ys, IsSt d) ∧ 0 ≤ t ∧ t + (ys.filterMap gT).length ≤ 1 ∧ s = S) ?_ ⟨0, xs, 0, _, _, rfl, rfl, by omega, hx.all, by omega, by have := hx.one; omega, rfl⟩) (fun ρ s ⟨k, ys, t, a, b, _, _, _, _, _, _, e⟩ => e) fun _ _ h => h) ?_
    · rintro d ds ρ s ⟨k, ys, t, a, b, e, rfl, h1, h2, h3, h4, rfl⟩
      cases ys with
      | nil => cases e
      | cons y ys =>
        simp only [enumFrom', List.cons.injEq] at e
        obtain ⟨rfl, rfl⟩ := e
        refine ⟨_, rfl, ?_⟩
        have hy := h2 y List.mem_cons_self
        have st := isst_ok hy s
        have hk : ¬ (k : Int) = 5 := by simp at h1; omega
        simp only [evDef, startE, evSs, evEs, evO, evIf, evSrc, s_it1, s_it2, s_it3, e_lit, e_glob, e_var, e_pk, e_tup, e_lst, e_bin, e_star, e_neg, e_cmp, e_isN, e_chain, e_and, e_or, e_not, e_ite, e_idx, e_slice, e_fld, e_call, e_blt, e_isi, e_join, e_comp, e_dcomp, e_dic0, e_cidx, e_cell, e_cget, e_clen, e_ccat, v_asg, v_asgO, v_unp, v_par, v_setI, v_setK, v_aug, v_app, v_exp, v_ret, v_retO, v_retN, v_ite, v_for_, v_pass, v_never, v_frz, v_cset, immAt, pkAt, MP.setI, ownAt, lstOwn, dicOwn, MP.setO, List.map_cons, List.map_nil, List.length_cons, List.length_nil, List.cons_append, List.nil_append, List.getElem?_cons_zero, List.getElem?_cons_succ, R.of_some, R.of_none, R.bind_ok, RS.of_ok, RS.seq_nx, RS.seq_ret, nc0, nc1, nc2, nc3, nc4, nc5, nc6, nc7, nc8, nc9, s_bind, s_map, s_eqI, s_neI, s_eqS, s_neS, atI_0, atI_1, atI_2, atI_3, s_int1, s_int2, s_max, s_mod, s_ix1, s_ix2, s_len1, s_len2, s_list1, s_list2, s_list3, s_tup1, s_tup2, decide_true, decide_false, if_true, if_false, s_ge, s_lt, s_le, s_gt, s_truth, List.set_cons_zero, List.set_cons_succ, s_mul, Bool.or_true, s_add1, s_add3, s_add4, s_sub, s_fdiv, Bool.and_true, Bool.false_eq_true, List.replicate, Nat.reduceAdd, Nat.reduceSub, Int.reduceAdd, Int.reduceSub, Int.reduceMul, fnL, constF, newCell, R.bind_stuck, setAll, hk, st, dNot, Bool.not_true]
        obtain ⟨w, w1, w2⟩ := st_w hy
        have ad : ∀ i j : Int, dAug .add (.int i) (.int j) = some (.int (i + j)) := fun _ _ => rfl
        cases hT : isT y with
        | true =>
          rw [hT] at w2
          have g1 : (y :: ys).filterMap gT = y :: ys.filterMap gT := by rw [List.filterMap_cons]; simp [gT, hT]
          rw [g1, List.length_cons] at h4
          have g2 : ¬ (1 < t + 1) := by omega
          simp only [evDef, startE, evSs, evEs, evO, evIf, evSrc, s_it1, s_it2, s_it3, e_lit, e_glob, e_var, e_pk, e_tup, e_lst, e_bin, e_star, e_neg, e_cmp, e_isN, e_chain, e_and, e_or, e_not, e_ite, e_idx, e_slice, e_fld, e_call, e_blt, e_isi, e_join, e_comp, e_dcomp, e_dic0, e_cidx, e_cell, e_cget, e_clen, e_ccat, v_asg, v_asgO, v_unp, v_par, v_setI, v_setK, v_aug, v_app, v_exp, v_ret, v_retO, v_retN, v_ite, v_for_, v_pass, v_never, v_frz, v_cset, immAt, pkAt, MP.setI, ownAt, lstOwn, dicOwn, MP.setO, List.map_cons, List.map_nil, List.length_cons, List.length_nil, List.cons_append, List.nil_append, List.getElem?_cons_zero, List.getElem?_cons_succ, R.of_some, R.of_none, R.bind_ok, RS.of_ok, RS.seq_nx, RS.seq_ret, nc0, nc1, nc2, nc3, nc4, nc5, nc6, nc7, nc8, nc9, s_bind, s_map, s_eqI, s_neI, s_eqS, s_neS, atI_0, atI_1, atI_2, atI_3, s_int1, s_int2, s_max, s_mod, s_ix1, s_ix2, s_len1, s_len2, s_list1, s_list2, s_list3, s_tup1, s_tup2, decide_true, decide_false, if_true, if_false, s_ge, s_lt, s_le, s_gt, s_truth, List.set_cons_zero, List.set_cons_succ, s_mul, Bool.or_true, s_add1, s_add3, s_add4, s_sub, s_fdiv, Bool.and_true, Bool.false_eq_true, List.replicate, Nat.reduceAdd, Nat.reduceSub, Int.reduceAdd, Int.reduceSub, Int.reduceMul, fnL, constF, newCell, R.bind_stuck, w1, w2, ad, g2]
          exact Rt.nx ⟨k + 1, ys, t + 1, _, _, rfl, rfl, by simp at h1; omega, fun d hd => h2 d (List.mem_cons_of_mem y hd), by omega, by omega, rfl⟩
        | false =>
          rw [hT] at w2
          have g1 : (y :: ys).filterMap gT = ys.filterMap gT := by rw [List.filterMap_cons]; simp [gT, hT]
          rw [g1] at h4
          have g2 : ¬ (1 < t + 0) := by omega
          simp only [evDef, startE, evSs, evEs, evO, evIf, evSrc, s_it1, s_it2, s_it3, e_lit, e_glob, e_var, e_pk, e_tup, e_lst, e_bin, e_star, e_neg, e_cmp, e_isN, e_chain, e_and, e_or, e_not, e_ite, e_idx, e_slice, e_fld, e_call, e_blt, e_isi, e_join, e_comp, e_dcomp, e_dic0, e_cidx, e_cell, e_cget, e_clen, e_ccat, v_asg, v_asgO, v_unp, v_par, v_setI, v_setK, v_aug, v_app, v_exp, v_ret, v_retO, v_retN, v_ite, v_for_, v_pass, v_never, v_frz, v_cset, immAt, pkAt, MP.setI, ownAt, lstOwn, dicOwn, MP.setO, List.map_cons, List.map_nil, List.length_cons, List.length_nil, List.cons_append, List.nil_append, List.getElem?_cons_zero, List.getElem?_cons_succ, R.of_some, R.of_none, R.bind_ok, RS.of_ok, RS.seq_nx, RS.seq_ret, nc0, nc1, nc2, nc3, nc4, nc5, nc6, nc7, nc8, nc9, s_bind, s_map, s_eqI, s_neI, s_eqS, s_neS, atI_0, atI_1, atI_2, atI_3, s_int1, s_int2, s_max, s_mod, s_ix1, s_ix2, s_len1, s_len2, s_list1, s_list2, s_list3, s_tup1, s_tup2, decide_true, decide_false, if_true, if_false, s_ge, s_lt, s_le, s_gt, s_truth, List.set_cons_zero, List.set_cons_succ, s_mul, Bool.or_true, s_add1, s_add3, s_add4, s_sub, s_fdiv, Bool.and_true, Bool.false_eq_true, List.replicate, Nat.reduceAdd, Nat.reduceSub, Int.reduceAdd, Int.reduceSub, Int.reduceMul, fnL, constF, newCell, R.bind_stuck, w1, w2, ad, g2]
          exact Rt.nx ⟨k + 1, ys, t + 0, _, _, rfl, rfl, by simp at h1; omega, fun d hd => h2 d (List.mem_cons_of_mem y hd), by omega, by omega, rfl⟩
    · rintro ρ s rfl
      exact Rt.nx ⟨trivial, rfl⟩
  obtain ⟨d, S', e, rfl, rfl⟩ := run
  exact e
end Gk15

namespace Gk15
open PySem MP
theorem new_prg {hd cs : Str} {xs : List D} (h1 : IsHeld hd) (h2 : StepsOk xs) (h3 : xs.length ≤ 5) (h4 : IsCols cs) (S : Sto) : F_new_Program [.str hd, .lst xs, .str cs] S = .ok (.prg hd xs cs) S := by
  have e1 := held_ok h1 S
  have e2 := steps_run h2 h3 S
  have e3 := told_ok h4 S
  simp only [evDef, startE, evSs, evEs, evO, evIf, evSrc, s_it1, s_it2, s_it3, e_lit, e_glob, e_var, e_pk, e_tup, e_lst, e_bin, e_star, e_neg, e_cmp, e_isN, e_chain, e_and, e_or, e_not, e_ite, e_idx, e_slice, e_fld, e_call, e_blt, e_isi, e_join, e_comp, e_dcomp, e_dic0, e_cidx, e_cell, e_cget, e_clen, e_ccat, v_asg, v_asgO, v_unp, v_par, v_setI, v_setK, v_aug, v_app, v_exp, v_ret, v_retO, v_retN, v_ite, v_for_, v_pass, v_never, v_frz, v_cset, immAt, pkAt, MP.setI, ownAt, lstOwn, dicOwn, MP.setO, List.map_cons, List.map_nil, List.length_cons, List.length_nil, List.cons_append, List.nil_append, List.getElem?_cons_zero, List.getElem?_cons_succ, R.of_some, R.of_none, R.bind_ok, RS.of_ok, RS.seq_nx, RS.seq_ret, nc0, nc1, nc2, nc3, nc4, nc5, nc6, nc7, nc8, nc9, s_bind, s_map, s_eqI, s_neI, s_eqS, s_neS, atI_0, atI_1, atI_2, atI_3, s_int1, s_int2, s_max, s_mod, s_ix1, s_ix2, s_len1, s_len2, s_list1, s_list2, s_list3, s_tup1, s_tup2, decide_true, decide_false, if_true, if_false, s_ge, s_lt, s_le, s_gt, s_truth, List.set_cons_zero, List.set_cons_succ, s_mul, Bool.or_true, s_add1, s_add3, s_add4, s_sub, s_fdiv, Bool.and_true, Bool.false_eq_true, List.replicate, Nat.reduceAdd, Nat.reduceSub, Int.reduceAdd, Int.reduceSub, Int.reduceMul, fnL, constF, newCell, R.bind_stuck, F_new_Program, iniF, b_ini, tst, e1, e2, e3, dNot, Bool.not_true, prgOf, R.nox_ok]
/-! ### rows -/
structure Row where
  m : Str
  x : Option Int
  y : Option Int
def ent : Option Int → D
  | none => .non
  | some i => .int i
def Row.d (r : Row) : D := .tup [.str r.m, ent r.x, ent r.y]
def Row.at (r : Row) (c : Str) : Option Int := if c = "x" then r.x else r.y
def Row.put (r : Row) (c : Str) (e : Option Int) : Row := if c = "x" then { r with x := e } else { r with y := e }
theorem entry_of {r : Row} {c : Str} (hc : c = "x" ∨ c = "y") (S : Sto) : F_entry_of [r.d, .str c] S = .ok (ent (r.at c)) S := by
  rcases hc with rfl | rfl
  · have : dCidx ["x", "y"] (.str "x") = some (.int 0) := rfl
    simp only [evDef, startE, evSs, evEs, evO, evIf, evSrc, s_it1, s_it2, s_it3, e_lit, e_glob, e_var, e_pk, e_tup, e_lst, e_bin, e_star, e_neg, e_cmp, e_isN, e_chain, e_and, e_or, e_not, e_ite, e_idx, e_slice, e_fld, e_call, e_blt, e_isi, e_join, e_comp, e_dcomp, e_dic0, e_cidx, e_cell, e_cget, e_clen, e_ccat, v_asg, v_asgO, v_unp, v_par, v_setI, v_setK, v_aug, v_app, v_exp, v_ret, v_retO, v_retN, v_ite, v_for_, v_pass, v_never, v_frz, v_cset, immAt, pkAt, MP.setI, ownAt, lstOwn, dicOwn, MP.setO, List.map_cons, List.map_nil, List.length_cons, List.length_nil, List.cons_append, List.nil_append, List.getElem?_cons_zero, List.getElem?_cons_succ, R.of_some, R.of_none, R.bind_ok, RS.of_ok, RS.seq_nx, RS.seq_ret, nc0, nc1, nc2, nc3, nc4, nc5, nc6, nc7, nc8, nc9, s_bind, s_map, s_eqI, s_neI, s_eqS, s_neS, atI_0, atI_1, atI_2, atI_3, s_int1, s_int2, s_max, s_mod, s_ix1, s_ix2, s_len1, s_len2, s_list1, s_list2, s_list3, s_tup1, s_tup2, decide_true, decide_false, if_true, if_false, s_ge, s_lt, s_le, s_gt, s_truth, List.set_cons_zero, List.set_cons_succ, s_mul, Bool.or_true, s_add1, s_add3, s_add4, s_sub, s_fdiv, Bool.and_true, Bool.false_eq_true, List.replicate, Nat.reduceAdd, Nat.reduceSub, Int.reduceAdd, Int.reduceSub, Int.reduceMul, fnL, constF, newCell, R.bind_stuck, F_entry_of, b_entry_of, N_entry_of, this, Row.d, Int.reduceAdd, Row.at]
  · have : dCidx ["x", "y"] (.str "y") = some (.int 1) := rfl
    simp only [evDef, startE, evSs, evEs, evO, evIf, evSrc, s_it1, s_it2, s_it3, e_lit, e_glob, e_var, e_pk, e_tup, e_lst, e_bin, e_star, e_neg, e_cmp, e_isN, e_chain, e_and, e_or, e_not, e_ite, e_idx, e_slice, e_fld, e_call, e_blt, e_isi, e_join, e_comp, e_dcomp, e_dic0, e_cidx, e_cell, e_cget, e_clen, e_ccat, v_asg, v_asgO, v_unp, v_par, v_setI, v_setK, v_aug, v_app, v_exp, v_ret, v_retO, v_retN, v_ite, v_for_, v_pass, v_never, v_frz, v_cset, immAt, pkAt, MP.setI, ownAt, lstOwn, dicOwn, MP.setO, List.map_cons, List.map_nil, List.length_cons, List.length_nil, List.cons_append, List.nil_append, List.getElem?_cons_zero, List.getElem?_cons_succ, R.of_some, R.of_none, R.bind_ok, RS.of_ok, RS.seq_nx, RS.seq_ret, nc0, nc1, nc2, nc3, nc4, nc5, nc6, nc7, nc8, nc9, s_bind, s_map, s_eqI, s_neI, s_eqS, s_neS, atI_0, atI_1, atI_2, atI_3, s_int1, s_int2, s_max, s_mod, s_ix1, s_ix2, s_len1, s_len2, s_list1, s_list2, s_list3, s_tup1, s_tup2, decide_true, decide_false, if_true, if_false, s_ge, s_lt, s_le, s_gt, s_truth, List.set_cons_zero, List.set_cons_succ, s_mul, Bool.or_true, s_add1, s_add3, s_add4, s_sub, s_fdiv, Bool.and_true, Bool.false_eq_true, List.replicate, Nat.reduceAdd, Nat.reduceSub, Int.reduceAdd, Int.reduceSub, Int.reduceMul, fnL, constF, newCell, R.bind_stuck, F_entry_of, b_entry_of, N_entry_of, this, Row.d, Int.reduceAdd, Row.at, (by decide : ¬ ("y" : Str) = "x")]
theorem sl_t (xs : List D) (l h : Option Int) : dSlice (.tup xs) l h = some (.tup (cut xs l h)) := rfl
section
variable (a b c : D)
theorem cut_a : cut [a, b, c] none (some 1) = [a] := rfl
theorem cut_b : cut [a, b, c] (some 2) none = [c] := rfl
theorem cut_c : cut [a, b, c] none (some 2) = [a, b] := rfl
theorem cut_d : cut [a, b, c] (some 3) none = [] := rfl
theorem cut_e : cut [a, b, c] (some 1) none = [b, c] := rfl
end
theorem with_entry {r : Row} {c : Str} {e : Option Int} (hc : c = "x" ∨ c = "y") (S : Sto) : F_with_entry [r.d, .str c, ent e] S = .ok (r.put c e).d S := by
  have hT : ∀ x y z : D, mkTup [x, y, z] = some (.tup [x, y, z]) := fun x y z => mkT_of (n := 3) rfl (by decide)
  rcases hc with rfl | rfl
  · have : dCidx ["x", "y"] (.str "x") = some (.int 0) := rfl
    simp only [evDef, startE, evSs, evEs, evO, evIf, evSrc, s_it1, s_it2, s_it3, e_lit, e_glob, e_var, e_pk, e_tup, e_lst, e_bin, e_star, e_neg, e_cmp, e_isN, e_chain, e_and, e_or, e_not, e_ite, e_idx, e_slice, e_fld, e_call, e_blt, e_isi, e_join, e_comp, e_dcomp, e_dic0, e_cidx, e_cell, e_cget, e_clen, e_ccat, v_asg, v_asgO, v_unp, v_par, v_setI, v_setK, v_aug, v_app, v_exp, v_ret, v_retO, v_retN, v_ite, v_for_, v_pass, v_never, v_frz, v_cset, immAt, pkAt, MP.setI, ownAt, lstOwn, dicOwn, MP.setO, List.map_cons, List.map_nil, List.length_cons, List.length_nil, List.cons_append, List.nil_append, List.getElem?_cons_zero, List.getElem?_cons_succ, R.of_some, R.of_none, R.bind_ok, RS.of_ok, RS.seq_nx, RS.seq_ret, nc0, nc1, nc2, nc3, nc4, nc5, nc6, nc7, nc8, nc9, s_bind, s_map, s_eqI, s_neI, s_eqS, s_neS, atI_0, atI_1, atI_2, atI_3, s_int1, s_int2, s_max, s_mod, s_ix1, s_ix2, s_len1, s_len2, s_list1, s_list2, s_list3, s_tup1, s_tup2, decide_true, decide_false, if_true, if_false, s_ge, s_lt, s_le, s_gt, s_truth, List.set_cons_zero, List.set_cons_succ, s_mul, Bool.or_true, s_add1, s_add3, s_add4, s_sub, s_fdiv, Bool.and_true, Bool.false_eq_true, List.replicate, Nat.reduceAdd, Nat.reduceSub, Int.reduceAdd, Int.reduceSub, Int.reduceMul, fnL, constF, newCell, R.bind_stuck, F_with_entry, b_with_entry, N_with_entry, this, Row.d, Int.reduceAdd, Row.put, sl_t, asInt, cut_a, cut_b, cut_c, cut_d, seqItems, List.append_nil, hT]
  · have : dCidx ["x", "y"] (.str "y") = some (.int 1) := rfl
    simp only [evDef, startE, evSs, evEs, evO, evIf, evSrc, s_it1, s_it2, s_it3, e_lit, e_glob, e_var, e_pk, e_tup, e_lst, e_bin, e_star, e_neg, e_cmp, e_isN, e_chain, e_and, e_or, e_not, e_ite, e_idx, e_slice, e_fld, e_call, e_blt, e_isi, e_join, e_comp, e_dcomp, e_dic0, e_cidx, e_cell, e_cget, e_clen, e_ccat, v_asg, v_asgO, v_unp, v_par, v_setI, v_setK, v_aug, v_app, v_exp, v_ret, v_retO, v_retN, v_ite, v_for_, v_pass, v_never, v_frz, v_cset, immAt, pkAt, MP.setI, ownAt, lstOwn, dicOwn, MP.setO, List.map_cons, List.map_nil, List.length_cons, List.length_nil, List.cons_append, List.nil_append, List.getElem?_cons_zero, List.getElem?_cons_succ, R.of_some, R.of_none, R.bind_ok, RS.of_ok, RS.seq_nx, RS.seq_ret, nc0, nc1, nc2, nc3, nc4, nc5, nc6, nc7, nc8, nc9, s_bind, s_map, s_eqI, s_neI, s_eqS, s_neS, atI_0, atI_1, atI_2, atI_3, s_int1, s_int2, s_max, s_mod, s_ix1, s_ix2, s_len1, s_len2, s_list1, s_list2, s_list3, s_tup1, s_tup2, decide_true, decide_false, if_true, if_false, s_ge, s_lt, s_le, s_gt, s_truth, List.set_cons_zero, List.set_cons_succ, s_mul, Bool.or_true, s_add1, s_add3, s_add4, s_sub, s_fdiv, Bool.and_true, Bool.false_eq_true, List.replicate, Nat.reduceAdd, Nat.reduceSub, Int.reduceAdd, Int.reduceSub, Int.reduceMul, fnL, constF, newCell, R.bind_stuck, F_with_entry, b_with_entry, N_with_entry, this, Row.d, Int.reduceAdd, Row.put, sl_t, asInt, cut_a, cut_b, cut_c, cut_d, seqItems, List.append_nil, hT, (by decide : ¬ ("y" : Str) = "x")]
/-! ### worths, changes -/
/-- a worth's marks, held back ones hd -/
def mks (hd mark sc : Str) (bh : Bool) : List Str := (["a", "b", "c"] : List Str).filter fun o => (decide (sc = "all") || (decide (sc = "same") && decide (o = mark)) || (decide (sc = "ahead") && decide (o.cps.toList < mark.cps.toList))) && (!bh || (Builtin.Str.occurrences hd o 0 hd.length 1).isEmpty)
theorem marks_in {hd mark sc cs : Str} {bh : Bool} {xs : List D} (S : Sto) (h1 : IsHeld hd) (h2 : IsMk mark) (h3 : sc = "all" ∨ sc = "same" ∨ sc = "ahead") : F_marks_in [.prg hd xs cs, .str mark, .str sc, .bl bh] S = .ok (.lst ((mks hd mark sc bh).map .str)) S := by
  rcases h1 with rfl | rfl | rfl | rfl | rfl | rfl <;> rcases h2 with rfl | rfl | rfl <;> rcases h3 with rfl | rfl | rfl <;> cases bh <;> kernel_rfl
theorem changed_add {r : Row} {c e : Str} {w : D} (h1 : c = "x" ∨ c = "y") (h2 : e = "x" ∨ e = "y") (S : Sto) : F_changed_entry [.tup [.str "add", .str c, .str e], r.d, w] S = .ok (ent (match r.at c, r.at e with | some i, some j => some (i + j) | _, _ => none)) S := by
  have e1 := entry_of (r := r) h1 S
  have e2 := entry_of (r := r) h2 S
  cases q1 : r.at c <;> cases q2 : r.at e
  all_goals
    rw [q1] at e1
    rw [q2] at e2
    simp only [evDef, startE, evSs, evEs, evO, evIf, evSrc, s_it1, s_it2, s_it3, e_lit, e_glob, e_var, e_pk, e_tup, e_lst, e_bin, e_star, e_neg, e_cmp, e_isN, e_chain, e_and, e_or, e_not, e_ite, e_idx, e_slice, e_fld, e_call, e_blt, e_isi, e_join, e_comp, e_dcomp, e_dic0, e_cidx, e_cell, e_cget, e_clen, e_ccat, v_asg, v_asgO, v_unp, v_par, v_setI, v_setK, v_aug, v_app, v_exp, v_ret, v_retO, v_retN, v_ite, v_for_, v_pass, v_never, v_frz, v_cset, immAt, pkAt, MP.setI, ownAt, lstOwn, dicOwn, MP.setO, List.map_cons, List.map_nil, List.length_cons, List.length_nil, List.cons_append, List.nil_append, List.getElem?_cons_zero, List.getElem?_cons_succ, R.of_some, R.of_none, R.bind_ok, RS.of_ok, RS.seq_nx, RS.seq_ret, nc0, nc1, nc2, nc3, nc4, nc5, nc6, nc7, nc8, nc9, s_bind, s_map, s_eqI, s_neI, s_eqS, s_neS, atI_0, atI_1, atI_2, atI_3, s_int1, s_int2, s_max, s_mod, s_ix1, s_ix2, s_len1, s_len2, s_list1, s_list2, s_list3, s_tup1, s_tup2, decide_true, decide_false, if_true, if_false, s_ge, s_lt, s_le, s_gt, s_truth, List.set_cons_zero, List.set_cons_succ, s_mul, Bool.or_true, s_add1, s_add3, s_add4, s_sub, s_fdiv, Bool.and_true, Bool.false_eq_true, List.replicate, Nat.reduceAdd, Nat.reduceSub, Int.reduceAdd, Int.reduceSub, Int.reduceMul, fnL, constF, newCell, R.bind_stuck, F_changed_entry, b_changed_entry, N_changed_entry, bindTg, setAll, e1, e2, ent, isNb, Bool.not_false, Bool.not_true]
end Gk15

namespace Gk15
open PySem MP
def wv (wa wb wc : Int) (m : Str) : Int := if m = "a" then wa else if m = "b" then wb else wc
def chg (w : Str) (v : Int) (e : Option Int) : Option Int := if w = "put" then some v else if w = "fill" then (match e with | none => some v | some i => some i) else e.map fun i => i - v
theorem dic_at {m : Str} (h : IsMk m) (wa wb wc : Int) : dIdx (.dic [(.str "a", .int wa), (.str "b", .int wb), (.str "c", .int wc)]) (.str m) = some (.int (wv wa wb wc m)) := by
  rcases h with rfl | rfl | rfl
  all_goals rfl
theorem rd0 (r : Row) : dIdx r.d (.int 0) = some (.str r.m) := atI_0 (D.str r.m) [ent r.x, ent r.y]
theorem changed_w {r : Row} {w c : Str} {u : D} {wa wb wc : Int} (hw : w = "fill" ∨ w = "less" ∨ w = "put") (hc : c = "x" ∨ c = "y") (hm : IsMk r.m) (S : Sto) : F_changed_entry [.tup [.str w, .str c, u], r.d, .dic [(.str "a", .int wa), (.str "b", .int wb), (.str "c", .int wc)]] S = .ok (ent (chg w (wv wa wb wc r.m) (r.at c))) S := by
  have e1 := entry_of (r := r) hc S
  have e2 := dic_at hm wa wb wc
  have e3 := rd0 r
  rcases hw with rfl | rfl | rfl <;> cases q1 : r.at c
  all_goals
    rw [q1] at e1
    simp only [evDef, startE, evSs, evEs, evO, evIf, evSrc, s_it1, s_it2, s_it3, e_lit, e_glob, e_var, e_pk, e_tup, e_lst, e_bin, e_star, e_neg, e_cmp, e_isN, e_chain, e_and, e_or, e_not, e_ite, e_idx, e_slice, e_fld, e_call, e_blt, e_isi, e_join, e_comp, e_dcomp, e_dic0, e_cidx, e_cell, e_cget, e_clen, e_ccat, v_asg, v_asgO, v_unp, v_par, v_setI, v_setK, v_aug, v_app, v_exp, v_ret, v_retO, v_retN, v_ite, v_for_, v_pass, v_never, v_frz, v_cset, immAt, pkAt, MP.setI, ownAt, lstOwn, dicOwn, MP.setO, List.map_cons, List.map_nil, List.length_cons, List.length_nil, List.cons_append, List.nil_append, List.getElem?_cons_zero, List.getElem?_cons_succ, R.of_some, R.of_none, R.bind_ok, RS.of_ok, RS.seq_nx, RS.seq_ret, nc0, nc1, nc2, nc3, nc4, nc5, nc6, nc7, nc8, nc9, s_bind, s_map, s_eqI, s_neI, s_eqS, s_neS, atI_0, atI_1, atI_2, atI_3, s_int1, s_int2, s_max, s_mod, s_ix1, s_ix2, s_len1, s_len2, s_list1, s_list2, s_list3, s_tup1, s_tup2, decide_true, decide_false, if_true, if_false, s_ge, s_lt, s_le, s_gt, s_truth, List.set_cons_zero, List.set_cons_succ, s_mul, Bool.or_true, s_add1, s_add3, s_add4, s_sub, s_fdiv, Bool.and_true, Bool.false_eq_true, List.replicate, Nat.reduceAdd, Nat.reduceSub, Int.reduceAdd, Int.reduceSub, Int.reduceMul, fnL, constF, newCell, R.bind_stuck, F_changed_entry, b_changed_entry, N_changed_entry, bindTg, setAll, e1, e2, e3, ent, isNb, Bool.not_false, Bool.not_true, chg, Option.map_none, Option.map_some, (by decide : ¬ ("fill" : Str) = "add"), (by decide : ¬ ("less" : Str) = "add"), (by decide : ¬ ("put" : Str) = "add"), (by decide : ¬ ("fill" : Str) = "put"), (by decide : ¬ ("less" : Str) = "put"), (by decide : ¬ ("less" : Str) = "fill"), (by decide : ¬ ("put" : Str) = "fill")]
theorem compS_map {α : Type} {fn : Nat → FS} {own : List Nat} {tg : Tg} {ifs : Option E} {elt : E} {ρ : Env'} {s : Sto} (f : α → D) (g : α → Option D) : ∀ {xs : List α}, (∀ x ∈ xs, ∃ ρ', bindTg (wipeE ρ own) tg (f x) = some ρ' ∧ ∃ t, evIf fn ρ' ifs s = .ok t s ∧ (if t = true then ∃ e, evE fn ρ' elt s = .ok e s ∧ g x = some e else g x = none)) → compS fn own tg ifs elt ρ (xs.map f) s = .ok (xs.filterMap g) s
  | [], _ => rfl
  | d :: ds, h => by
    have ih := compS_map (ifs := ifs) (elt := elt) (ρ := ρ) (s := s) (own := own) (tg := tg) (fn := fn) f g fun x hx => h x (List.mem_cons_of_mem d hx)
    obtain ⟨ρ', e, t, e2, e3⟩ := h d List.mem_cons_self
    unfold compS at ih ⊢
    rw [List.map_cons]
    simp only [compLoop, e, R.of_some, R.bind_ok, e2]
    cases t with
    | true =>
      simp only [if_true] at e3
      obtain ⟨y, e4, e5⟩ := e3
      simp only [if_true, e4, R.bind_ok, R.nox_ok, ih, List.filterMap_cons, e5]
    | false =>
      simp only [Bool.false_eq_true, if_false] at e3
      simp only [Bool.false_eq_true, if_false, R.nox_ok, R.bind_ok, ih, List.filterMap_cons, e3]
theorem str_plain (n : Nat) : ∀ ms : List Str, D.plains n (ms.map D.str) = true
  | [] => by simp [D.plains]
  | m :: ms => by simp [D.plains, D.plain, str_plain n ms]
theorem in_strs (m : Str) (ms : List Str) : dCmp .in_ (.str m) (.lst (ms.map .str)) = some (decide (m ∈ ms)) := by
  have e : ((ms.map D.str).any fun y => y.eqv (.str m)) = decide (m ∈ ms) := by
    induction ms with
    | nil => simp
    | cons z zs ih =>
      rw [List.map_cons, List.any_cons, ih]
      have : (D.str z).eqv (.str m) = decide (m = z) := by
        simp only [D.eqv]
        rw [Bool.eq_iff_iff, beq_iff_eq, decide_eq_true_eq]
        exact eq_comm
      rw [this]
      simp [List.mem_cons]
  unfold dCmp
  simp only [D.plain, str_plain, Bool.and_self, if_true, e]
def sumC (ms : List Str) (c : Str) (rows : List Row) : Int := ((rows.filter fun r => decide (r.m ∈ ms)).filterMap fun r => r.at c).sum
theorem dInts_of (ns : List Int) : dInts (ns.map .int) = some ns := by
  induction ns with
  | nil => rfl
  | cons n ns ih => simp [dInts, ih]
theorem worth0 {hd cs mark : Str} {xs : List D} {t : D} (S : Sto) : F_worth_for [.prg hd xs cs, .int 0, .str mark, t] S = .ok (.int 0) S := by
  simp only [evDef, startE, evSs, evEs, evO, evIf, evSrc, s_it1, s_it2, s_it3, e_lit, e_glob, e_var, e_pk, e_tup, e_lst, e_bin, e_star, e_neg, e_cmp, e_isN, e_chain, e_and, e_or, e_not, e_ite, e_idx, e_slice, e_fld, e_call, e_blt, e_isi, e_join, e_comp, e_dcomp, e_dic0, e_cidx, e_cell, e_cget, e_clen, e_ccat, v_asg, v_asgO, v_unp, v_par, v_setI, v_setK, v_aug, v_app, v_exp, v_ret, v_retO, v_retN, v_ite, v_for_, v_pass, v_never, v_frz, v_cset, immAt, pkAt, MP.setI, ownAt, lstOwn, dicOwn, MP.setO, List.map_cons, List.map_nil, List.length_cons, List.length_nil, List.cons_append, List.nil_append, List.getElem?_cons_zero, List.getElem?_cons_succ, R.of_some, R.of_none, R.bind_ok, RS.of_ok, RS.seq_nx, RS.seq_ret, nc0, nc1, nc2, nc3, nc4, nc5, nc6, nc7, nc8, nc9, s_bind, s_map, s_eqI, s_neI, s_eqS, s_neS, atI_0, atI_1, atI_2, atI_3, s_int1, s_int2, s_max, s_mod, s_ix1, s_ix2, s_len1, s_len2, s_list1, s_list2, s_list3, s_tup1, s_tup2, decide_true, decide_false, if_true, if_false, s_ge, s_lt, s_le, s_gt, s_truth, List.set_cons_zero, List.set_cons_succ, s_mul, Bool.or_true, s_add1, s_add3, s_add4, s_sub, s_fdiv, Bool.and_true, Bool.false_eq_true, List.replicate, Nat.reduceAdd, Nat.reduceSub, Int.reduceAdd, Int.reduceSub, Int.reduceMul, fnL, constF, newCell, R.bind_stuck, F_worth_for, b_worth_for, N_worth_for, isTys, List.any_cons, List.any_nil, isTy, dNot, Bool.or_false, Bool.not_false]
theorem fm_if {α β : Type} (p : α → Bool) (g : α → β) : ∀ xs : List α, xs.filterMap (fun x => if p x = true then some (g x) else none) = (xs.filter p).map g
  | [] => rfl
  | x :: xs => by
    have ih := fm_if p g xs
    cases h : p x <;> simp [List.filterMap_cons, List.filter_cons, h, ih]
theorem worth_sum {hd cs mark c sc : Str} {bh : Bool} {xs : List D} {rows : List Row} (h1 : IsHeld hd) (h2 : IsMk mark) (h3 : sc = "all" ∨ sc = "same" ∨ sc = "ahead") (h4 : c = "x" ∨ c = "y") (S : Sto) : F_worth_for [.prg hd xs cs, .tup [.str "sum", .str c, .str sc, .bl bh], .str mark, .lst (rows.map Row.d)] S = .ok (.int (sumC (mks hd mark sc bh) c rows)) S := by
  have e1 := marks_in (xs := xs) (cs := cs) (bh := bh) S h1 h2 h3
  have c1 : ∀ (a b d e f g : MP.Slot), compS (fnL [F_marks_in, F_entry_of]) [10] (.one 10) (some (.cmp .in_ (.idx (.var 10) (.lit (.int 0))) (.var 4))) (.call 1 [.var 10, .var 7]) [a, b, d, e, .imm (.lst ((mks hd mark sc bh).map .str)), f, g, .imm (.str c), .imm (.str sc), .imm (.bl bh), .no, .no] (rows.map Row.d) S = .ok (rows.filterMap fun r => if decide (r.m ∈ mks hd mark sc bh) then some (ent (r.at c)) else none) S := fun a b d e f g => by
    refine compS_map Row.d _ fun r hr => ⟨_, rfl, decide (r.m ∈ mks hd mark sc bh), ?_, ?_⟩
    · have := rd0 r
      simp only [evDef, startE, evSs, evEs, evO, evIf, evSrc, s_it1, s_it2, s_it3, e_lit, e_glob, e_var, e_pk, e_tup, e_lst, e_bin, e_star, e_neg, e_cmp, e_isN, e_chain, e_and, e_or, e_not, e_ite, e_idx, e_slice, e_fld, e_call, e_blt, e_isi, e_join, e_comp, e_dcomp, e_dic0, e_cidx, e_cell, e_cget, e_clen, e_ccat, v_asg, v_asgO, v_unp, v_par, v_setI, v_setK, v_aug, v_app, v_exp, v_ret, v_retO, v_retN, v_ite, v_for_, v_pass, v_never, v_frz, v_cset, immAt, pkAt, MP.setI, ownAt, lstOwn, dicOwn, MP.setO, List.map_cons, List.map_nil, List.length_cons, List.length_nil, List.cons_append, List.nil_append, List.getElem?_cons_zero, List.getElem?_cons_succ, R.of_some, R.of_none, R.bind_ok, RS.of_ok, RS.seq_nx, RS.seq_ret, nc0, nc1, nc2, nc3, nc4, nc5, nc6, nc7, nc8, nc9, s_bind, s_map, s_eqI, s_neI, s_eqS, s_neS, atI_0, atI_1, atI_2, atI_3, s_int1, s_int2, s_max, s_mod, s_ix1, s_ix2, s_len1, s_len2, s_list1, s_list2, s_list3, s_tup1, s_tup2, decide_true, decide_false, if_true, if_false, s_ge, s_lt, s_le, s_gt, s_truth, List.set_cons_zero, List.set_cons_succ, s_mul, Bool.or_true, s_add1, s_add3, s_add4, s_sub, s_fdiv, Bool.and_true, Bool.false_eq_true, List.replicate, Nat.reduceAdd, Nat.reduceSub, Int.reduceAdd, Int.reduceSub, Int.reduceMul, fnL, constF, newCell, R.bind_stuck, wipeE, this, in_strs]
    · have := entry_of (r := r) h4 S
      split
      · rename_i hh
        exact ⟨ent (r.at c), by simp only [evDef, startE, evSs, evEs, evO, evIf, evSrc, s_it1, s_it2, s_it3, e_lit, e_glob, e_var, e_pk, e_tup, e_lst, e_bin, e_star, e_neg, e_cmp, e_isN, e_chain, e_and, e_or, e_not, e_ite, e_idx, e_slice, e_fld, e_call, e_blt, e_isi, e_join, e_comp, e_dcomp, e_dic0, e_cidx, e_cell, e_cget, e_clen, e_ccat, v_asg, v_asgO, v_unp, v_par, v_setI, v_setK, v_aug, v_app, v_exp, v_ret, v_retO, v_retN, v_ite, v_for_, v_pass, v_never, v_frz, v_cset, immAt, pkAt, MP.setI, ownAt, lstOwn, dicOwn, MP.setO, List.map_cons, List.map_nil, List.length_cons, List.length_nil, List.cons_append, List.nil_append, List.getElem?_cons_zero, List.getElem?_cons_succ, R.of_some, R.of_none, R.bind_ok, RS.of_ok, RS.seq_nx, RS.seq_ret, nc0, nc1, nc2, nc3, nc4, nc5, nc6, nc7, nc8, nc9, s_bind, s_map, s_eqI, s_neI, s_eqS, s_neS, atI_0, atI_1, atI_2, atI_3, s_int1, s_int2, s_max, s_mod, s_ix1, s_ix2, s_len1, s_len2, s_list1, s_list2, s_list3, s_tup1, s_tup2, decide_true, decide_false, if_true, if_false, s_ge, s_lt, s_le, s_gt, s_truth, List.set_cons_zero, List.set_cons_succ, s_mul, Bool.or_true, s_add1, s_add3, s_add4, s_sub, s_fdiv, Bool.and_true, Bool.false_eq_true, List.replicate, Nat.reduceAdd, Nat.reduceSub, Int.reduceAdd, Int.reduceSub, Int.reduceMul, fnL, constF, newCell, R.bind_stuck, wipeE, this], rfl⟩
      · rename_i hh
        rfl
  have f1 := fm_if (fun r : Row => decide (r.m ∈ mks hd mark sc bh)) (fun r => ent (r.at c)) rows
  have c2 : ∀ (a b d e f g h i j k : MP.Slot) (es : List Row), compS (fnL [F_marks_in, F_entry_of]) [11] (.one 11) (some (.isN true (.var 11))) (.var 11) [a, b, d, e, f, g, h, i, j, k, .no, .no] (es.map fun r => ent (r.at c)) S = .ok (es.filterMap fun r => (r.at c).map D.int) S := fun a b d e f g h i j k es => by
    refine compS_map (fun r : Row => ent (r.at c)) _ fun r hr => ⟨_, rfl, (r.at c).isSome, ?_, ?_⟩
    · cases q : r.at c <;> simp only [evDef, startE, evSs, evEs, evO, evIf, evSrc, s_it1, s_it2, s_it3, e_lit, e_glob, e_var, e_pk, e_tup, e_lst, e_bin, e_star, e_neg, e_cmp, e_isN, e_chain, e_and, e_or, e_not, e_ite, e_idx, e_slice, e_fld, e_call, e_blt, e_isi, e_join, e_comp, e_dcomp, e_dic0, e_cidx, e_cell, e_cget, e_clen, e_ccat, v_asg, v_asgO, v_unp, v_par, v_setI, v_setK, v_aug, v_app, v_exp, v_ret, v_retO, v_retN, v_ite, v_for_, v_pass, v_never, v_frz, v_cset, immAt, pkAt, MP.setI, ownAt, lstOwn, dicOwn, MP.setO, List.map_cons, List.map_nil, List.length_cons, List.length_nil, List.cons_append, List.nil_append, List.getElem?_cons_zero, List.getElem?_cons_succ, R.of_some, R.of_none, R.bind_ok, RS.of_ok, RS.seq_nx, RS.seq_ret, nc0, nc1, nc2, nc3, nc4, nc5, nc6, nc7, nc8, nc9, s_bind, s_map, s_eqI, s_neI, s_eqS, s_neS, atI_0, atI_1, atI_2, atI_3, s_int1, s_int2, s_max, s_mod, s_ix1, s_ix2, s_len1, s_len2, s_list1, s_list2, s_list3, s_tup1, s_tup2, decide_true, decide_false, if_true, if_false, s_ge, s_lt, s_le, s_gt, s_truth, List.set_cons_zero, List.set_cons_succ, s_mul, Bool.or_true, s_add1, s_add3, s_add4, s_sub, s_fdiv, Bool.and_true, Bool.false_eq_true, List.replicate, Nat.reduceAdd, Nat.reduceSub, Int.reduceAdd, Int.reduceSub, Int.reduceMul, fnL, constF, newCell, R.bind_stuck, wipeE, ent, isNb, Option.isSome, Bool.not_true, Bool.not_false]
    · cases q : r.at c with
      | none => simp
      | some v => simp only [Option.isSome, if_true]; exact ⟨.int v, rfl, rfl⟩
  have f2 : ∀ es : List Row, (es.filterMap fun r => (r.at c).map D.int) = (es.filterMap fun r => r.at c).map D.int := fun es => by
    induction es with
    | nil => rfl
    | cons r rs ih =>
      rw [List.filterMap_cons, List.filterMap_cons]
      cases q : r.at c with
      | none => simpa using ih
      | some v => simp only [Option.map_some, List.map_cons, ih]
  rw [f1] at c1
  have sm : ∀ ns : List Int, dBlt .sum [.lst (ns.map .int)] = some (.int ns.sum) := fun ns => by show (dInts _).map _ = _; rw [dInts_of]; rfl
  simp only [evDef, startE, evSs, evEs, evO, evIf, evSrc, s_it1, s_it2, s_it3, e_lit, e_glob, e_var, e_pk, e_tup, e_lst, e_bin, e_star, e_neg, e_cmp, e_isN, e_chain, e_and, e_or, e_not, e_ite, e_idx, e_slice, e_fld, e_call, e_blt, e_isi, e_join, e_comp, e_dcomp, e_dic0, e_cidx, e_cell, e_cget, e_clen, e_ccat, v_asg, v_asgO, v_unp, v_par, v_setI, v_setK, v_aug, v_app, v_exp, v_ret, v_retO, v_retN, v_ite, v_for_, v_pass, v_never, v_frz, v_cset, immAt, pkAt, MP.setI, ownAt, lstOwn, dicOwn, MP.setO, List.map_cons, List.map_nil, List.length_cons, List.length_nil, List.cons_append, List.nil_append, List.getElem?_cons_zero, List.getElem?_cons_succ, R.of_some, R.of_none, R.bind_ok, RS.of_ok, RS.seq_nx, RS.seq_ret, nc0, nc1, nc2, nc3, nc4, nc5, nc6, nc7, nc8, nc9, s_bind, s_map, s_eqI, s_neI, s_eqS, s_neS, atI_0, atI_1, atI_2, atI_3, s_int1, s_int2, s_max, s_mod, s_ix1, s_ix2, s_len1, s_len2, s_list1, s_list2, s_list3, s_tup1, s_tup2, decide_true, decide_false, if_true, if_false, s_ge, s_lt, s_le, s_gt, s_truth, List.set_cons_zero, List.set_cons_succ, s_mul, Bool.or_true, s_add1, s_add3, s_add4, s_sub, s_fdiv, Bool.and_true, Bool.false_eq_true, List.replicate, Nat.reduceAdd, Nat.reduceSub, Int.reduceAdd, Int.reduceSub, Int.reduceMul, fnL, constF, newCell, R.bind_stuck, F_worth_for, b_worth_for, N_worth_for, isTys, List.any_cons, List.any_nil, isTy, dNot, Bool.or_false, Bool.not_true, bindTg, setAll, e1, c1, c2, f2, sm, sumC]
end Gk15

namespace Gk15
open PySem MP
def addE (a b : Option Int) : Option Int := match a, b with | some i, some j => some (i + j) | _, _ => none
/-- a plain step and what it does -/
inductive IsP (hd : Str) : D → (List Row → List Row) → Prop
  | add {c e : Str} : c = "x" ∨ c = "y" → e = "x" ∨ e = "y" → IsP hd (.tup [.str "add", .str c, .str e]) fun rs => rs.map fun r => r.put c (addE (r.at c) (r.at e))
  | zero {w c : Str} : w = "fill" ∨ w = "less" ∨ w = "put" → c = "x" ∨ c = "y" → IsP hd (.tup [.str w, .str c, .int 0]) fun rs => rs.map fun r => r.put c (chg w 0 (r.at c))
  | sum {w c c2 sc : Str} {bh : Bool} : w = "fill" ∨ w = "less" ∨ w = "put" → c = "x" ∨ c = "y" → c2 = "x" ∨ c2 = "y" → sc = "all" ∨ sc = "same" ∨ sc = "ahead" →
      IsP hd (.tup [.str w, .str c, .tup [.str "sum", .str c2, .str sc, .bl bh]]) fun rs => rs.map fun r => r.put c (chg w (sumC (mks hd r.m sc bh) c2 rs) (r.at c))
inductive Ps (hd : Str) : List D → List (List Row → List Row) → Prop
  | nil : Ps hd [] []
  | cons {d : D} {f : List Row → List Row} {ds : List D} {fs : List (List Row → List Row)} : IsP hd d f → Ps hd ds fs → Ps hd (d :: ds) (f :: fs)
abbrev fnS : Nat → FS := fnL [constF (.str "abc"), F_worth_for, F_with_entry, F_changed_entry]
theorem it_abc : items (.str "abc") = some [.str "a", .str "b", .str "c"] := rfl
theorem worths_ok {p t u w c : D} {n b : MP.Slot} {wa wb wc : Int} {S : Sto} (ha : F_worth_for [p, u, .str "a", t] S = .ok (.int wa) S) (hb : F_worth_for [p, u, .str "b", t] S = .ok (.int wb) S) (hc : F_worth_for [p, u, .str "c", t] S = .ok (.int wc) S) :
    dcompS fnS [6] (.one 6) (.var 6) (.call 1 [.var 0, .idx (.var 3) (.lit (.int 2)), .var 6, .var 1]) [.imm p, .imm t, n, .imm (.tup [w, c, u]), b, .no, .no] [.str "a", .str "b", .str "c"] S = .ok [(.str "a", .int wa), (.str "b", .int wb), (.str "c", .int wc)] S := by
  unfold dcompS
  simp only [dcompLoop, evDef, startE, evSs, evEs, evO, evIf, evSrc, s_it1, s_it2, s_it3, e_lit, e_glob, e_var, e_pk, e_tup, e_lst, e_bin, e_star, e_neg, e_cmp, e_isN, e_chain, e_and, e_or, e_not, e_ite, e_idx, e_slice, e_fld, e_call, e_blt, e_isi, e_join, e_comp, e_dcomp, e_dic0, e_cidx, e_cell, e_cget, e_clen, e_ccat, v_asg, v_asgO, v_unp, v_par, v_setI, v_setK, v_aug, v_app, v_exp, v_ret, v_retO, v_retN, v_ite, v_for_, v_pass, v_never, v_frz, v_cset, immAt, pkAt, MP.setI, ownAt, lstOwn, dicOwn, MP.setO, List.map_cons, List.map_nil, List.length_cons, List.length_nil, List.cons_append, List.nil_append, List.getElem?_cons_zero, List.getElem?_cons_succ, R.of_some, R.of_none, R.bind_ok, RS.of_ok, RS.seq_nx, RS.seq_ret, nc0, nc1, nc2, nc3, nc4, nc5, nc6, nc7, nc8, nc9, s_bind, s_map, s_eqI, s_neI, s_eqS, s_neS, atI_0, atI_1, atI_2, atI_3, s_int1, s_int2, s_max, s_mod, s_ix1, s_ix2, s_len1, s_len2, s_list1, s_list2, s_list3, s_tup1, s_tup2, decide_true, decide_false, if_true, if_false, s_ge, s_lt, s_le, s_gt, s_truth, List.set_cons_zero, List.set_cons_succ, s_mul, Bool.or_true, s_add1, s_add3, s_add4, s_sub, s_fdiv, Bool.and_true, Bool.false_eq_true, List.replicate, Nat.reduceAdd, Nat.reduceSub, Int.reduceAdd, Int.reduceSub, Int.reduceMul, fnL, constF, newCell, R.bind_stuck, bindTg, wipeE, ha, hb, hc, R.nox_ok]
  rfl
theorem put_m (r : Row) (c : Str) (e : Option Int) : (r.put c e).m = r.m := by unfold Row.put; split <;> rfl
theorem IsP.mk {hd : Str} {d : D} {f : List Row → List Row} (h : IsP hd d f) {rs : List Row} (hr : ∀ r ∈ rs, IsMk r.m) : ∀ r ∈ f rs, IsMk r.m := by
  intro r h2
  cases h <;> (obtain ⟨q, h3, rfl⟩ := List.mem_map.mp h2; rw [put_m]; exact hr q h3)
theorem rows_comp {p u w c : D} {n : MP.Slot} {cc : Str} {kv : D} {S : Sto} {rows : List Row} {g : Row → Option Int} {t : D} (hc : cc = "x" ∨ cc = "y") (hcc : c = .str cc) (h : ∀ r ∈ rows, F_changed_entry [.tup [w, c, u], r.d, kv] S = .ok (ent (g r)) S) :
    compS fnS [5] (.one 5) none (.call 2 [.var 5, .idx (.var 3) (.lit (.int 1)), .call 3 [.var 3, .var 5, .var 4]]) [.imm p, .imm t, n, .imm (.tup [w, c, u]), .imm kv, .no, .no] (rows.map Row.d) S = .ok (rows.filterMap fun r => some (r.put cc (g r)).d) S := by
  subst hcc
  refine compS_map Row.d _ fun r hr => ⟨_, rfl, true, rfl, ?_⟩
  have e1 := h r hr
  have e2 := with_entry (r := r) (e := g r) hc S
  exact ⟨(r.put cc (g r)).d, by simp only [evDef, startE, evSs, evEs, evO, evIf, evSrc, s_it1, s_it2, s_it3, e_lit, e_glob, e_var, e_pk, e_tup, e_lst, e_bin, e_star, e_neg, e_cmp, e_isN, e_chain, e_and, e_or, e_not, e_ite, e_idx, e_slice, e_fld, e_call, e_blt, e_isi, e_join, e_comp, e_dcomp, e_dic0, e_cidx, e_cell, e_cget, e_clen, e_ccat, v_asg, v_asgO, v_unp, v_par, v_setI, v_setK, v_aug, v_app, v_exp, v_ret, v_retO, v_retN, v_ite, v_for_, v_pass, v_never, v_frz, v_cset, immAt, pkAt, MP.setI, ownAt, lstOwn, dicOwn, MP.setO, List.map_cons, List.map_nil, List.length_cons, List.length_nil, List.cons_append, List.nil_append, List.getElem?_cons_zero, List.getElem?_cons_succ, R.of_some, R.of_none, R.bind_ok, RS.of_ok, RS.seq_nx, RS.seq_ret, nc0, nc1, nc2, nc3, nc4, nc5, nc6, nc7, nc8, nc9, s_bind, s_map, s_eqI, s_neI, s_eqS, s_neS, atI_0, atI_1, atI_2, atI_3, s_int1, s_int2, s_max, s_mod, s_ix1, s_ix2, s_len1, s_len2, s_list1, s_list2, s_list3, s_tup1, s_tup2, decide_true, decide_false, if_true, if_false, s_ge, s_lt, s_le, s_gt, s_truth, List.set_cons_zero, List.set_cons_succ, s_mul, Bool.or_true, s_add1, s_add3, s_add4, s_sub, s_fdiv, Bool.and_true, Bool.false_eq_true, List.replicate, Nat.reduceAdd, Nat.reduceSub, Int.reduceAdd, Int.reduceSub, Int.reduceMul, fnL, constF, newCell, R.bind_stuck, wipeE, e1, e2], rfl⟩
end Gk15

namespace Gk15
open PySem MP
theorem cut_whole (xs : List D) : cut xs none (some (xs.length : Int)) = xs := by
  unfold cut
  rw [HT.sIx_nat]
  simp [HT.sIx_none]
theorem fm_some {α β : Type} (f : α → β) : ∀ xs : List α, xs.filterMap (fun x => some (f x)) = xs.map f
  | [] => rfl
  | x :: xs => by simp [fm_some f xs]
theorem stepped_ok {hd cs : Str} {xs : List D} {fs : List (List Row → List Row)} {rows : List Row} (h1 : IsHeld hd) (hp : Ps hd xs fs) (hr : ∀ r ∈ rows, IsMk r.m) (S : Sto) :
    F_stepped [.prg hd xs cs, .lst (rows.map Row.d), .int xs.length] S = .ok (.lst ((fs.foldl (fun rs f => f rs) rows).map Row.d)) S := by
  have run : Rs (F_stepped [.prg hd xs cs, .lst (rows.map Row.d), .int xs.length] S) fun d S' => d = .lst ((fs.foldl (fun rs f => f rs) rows).map Row.d) ∧ S' = S := by
    refine def_run ?_
    have c0 : dSlice (.tup xs) none (some (xs.length : Int)) = some (.tup xs) := by rw [sl_t, cut_whole]
    have f0 : dFld .rows (.prg hd xs cs) = some (.tup xs) := rfl
    simp only [evDef, startE, evSs, evEs, evO, evIf, evSrc, s_it1, s_it2, s_it3, e_lit, e_glob, e_var, e_pk, e_tup, e_lst, e_bin, e_star, e_neg, e_cmp, e_isN, e_chain, e_and, e_or, e_not, e_ite, e_idx, e_slice, e_fld, e_call, e_blt, e_isi, e_join, e_comp, e_dcomp, e_dic0, e_cidx, e_cell, e_cget, e_clen, e_ccat, v_asg, v_asgO, v_unp, v_par, v_setI, v_setK, v_aug, v_app, v_exp, v_ret, v_retO, v_retN, v_ite, v_for_, v_pass, v_never, v_frz, v_cset, immAt, pkAt, MP.setI, ownAt, lstOwn, dicOwn, MP.setO, List.map_cons, List.map_nil, List.length_cons, List.length_nil, List.cons_append, List.nil_append, List.getElem?_cons_zero, List.getElem?_cons_succ, R.of_some, R.of_none, R.bind_ok, RS.of_ok, RS.seq_nx, RS.seq_ret, nc0, nc1, nc2, nc3, nc4, nc5, nc6, nc7, nc8, nc9, s_bind, s_map, s_eqI, s_neI, s_eqS, s_neS, atI_0, atI_1, atI_2, atI_3, s_int1, s_int2, s_max, s_mod, s_ix1, s_ix2, s_len1, s_len2, s_list1, s_list2, s_list3, s_tup1, s_tup2, decide_true, decide_false, if_true, if_false, s_ge, s_lt, s_le, s_gt, s_truth, List.set_cons_zero, List.set_cons_succ, s_mul, Bool.or_true, s_add1, s_add3, s_add4, s_sub, s_fdiv, Bool.and_true, Bool.false_eq_true, List.replicate, Nat.reduceAdd, Nat.reduceSub, Int.reduceAdd, Int.reduceSub, Int.reduceMul, fnL, constF, newCell, R.bind_stuck, b_stepped, N_stepped, f0, asInt, c0]
    refine Rt.seq (forS_run (fun ds ρ s => ∃ gs rs a b, Ps hd ds gs ∧ ρ = [.imm (.prg hd xs cs), .imm (.lst (rs.map Row.d)), .imm (.int xs.length), a, b, .no, .no] ∧ (∀ r ∈ rs, IsMk r.m) ∧ gs.foldl (fun rs f => f rs) rs = fs.foldl (fun rs f => f rs) rows ∧ s = S) ?_ ⟨fs, rows, _, _, hp, rfl, hr, rfl, rfl⟩) ?_
    · rintro d ds ρ s ⟨gs, rs, a, b, q, rfl, hm, e, rfl⟩
      cases q with
      | @cons _ g _ gs q1 q2 =>
      refine ⟨_, rfl, ?_⟩
      have hm' := q1.mk hm
      have fin : ∀ (a b : MP.Slot) (t : List D), t = (g rs).map Row.d → Rt (RS.nx [.imm (.prg hd xs cs), .imm (.lst t), .imm (.int xs.length), a, b, .no, .no] s) (fun ρ s' => ∃ gs rs a b, Ps hd ds gs ∧ ρ = [.imm (.prg hd xs cs), .imm (.lst (rs.map Row.d)), .imm (.int xs.length), a, b, .no, .no] ∧ (∀ r ∈ rs, IsMk r.m) ∧ gs.foldl (fun rs f => f rs) rs = fs.foldl (fun rs f => f rs) rows ∧ s' = s) (fun d S' => d = .lst ((fs.foldl (fun rs f => f rs) rows).map Row.d) ∧ S' = s) := fun a b t ht => by
        subst ht
        exact Rt.nx ⟨gs, g rs, a, b, q2, rfl, hm', e, rfl⟩
      cases q1 with
      | @add c e2 hc he =>
        have k := rows_comp (p := .prg hd xs cs) (u := .str e2) (w := .str "add") (n := .imm (.int xs.length)) (kv := .dic []) (S := s) (rows := rs) (t := .lst (rs.map Row.d)) (g := fun r => addE (r.at c) (r.at e2)) hc rfl fun r _ => changed_add hc he s
        simp only [evDef, startE, evSs, evEs, evO, evIf, evSrc, s_it1, s_it2, s_it3, e_lit, e_glob, e_var, e_pk, e_tup, e_lst, e_bin, e_star, e_neg, e_cmp, e_isN, e_chain, e_and, e_or, e_not, e_ite, e_idx, e_slice, e_fld, e_call, e_blt, e_isi, e_join, e_comp, e_dcomp, e_dic0, e_cidx, e_cell, e_cget, e_clen, e_ccat, v_asg, v_asgO, v_unp, v_par, v_setI, v_setK, v_aug, v_app, v_exp, v_ret, v_retO, v_retN, v_ite, v_for_, v_pass, v_never, v_frz, v_cset, immAt, pkAt, MP.setI, ownAt, lstOwn, dicOwn, MP.setO, List.map_cons, List.map_nil, List.length_cons, List.length_nil, List.cons_append, List.nil_append, List.getElem?_cons_zero, List.getElem?_cons_succ, R.of_some, R.of_none, R.bind_ok, RS.of_ok, RS.seq_nx, RS.seq_ret, nc0, nc1, nc2, nc3, nc4, nc5, nc6, nc7, nc8, nc9, s_bind, s_map, s_eqI, s_neI, s_eqS, s_neS, atI_0, atI_1, atI_2, atI_3, s_int1, s_int2, s_max, s_mod, s_ix1, s_ix2, s_len1, s_len2, s_list1, s_list2, s_list3, s_tup1, s_tup2, decide_true, decide_false, if_true, if_false, s_ge, s_lt, s_le, s_gt, s_truth, List.set_cons_zero, List.set_cons_succ, s_mul, Bool.or_true, s_add1, s_add3, s_add4, s_sub, s_fdiv, Bool.and_true, Bool.false_eq_true, List.replicate, Nat.reduceAdd, Nat.reduceSub, Int.reduceAdd, Int.reduceSub, Int.reduceMul, fnL, constF, newCell, R.bind_stuck, k, Bool.not_true]
        exact fin _ _ _ (by rw [fm_some, List.map_map]; rfl)
      | @zero w c hw hc =>
        have z : ∀ m, F_worth_for [.prg hd xs cs, .int 0, .str m, .lst (rs.map Row.d)] s = .ok (.int 0) s := fun m => worth0 s
        have wk := worths_ok (w := .str w) (c := .str c) (n := .imm (.int xs.length)) (b := .imm (.dic [])) (z "a") (z "b") (z "c")
        have k := rows_comp (p := .prg hd xs cs) (u := .int 0) (w := .str w) (n := .imm (.int xs.length)) (kv := .dic [(.str "a", .int 0), (.str "b", .int 0), (.str "c", .int 0)]) (S := s) (rows := rs) (t := .lst (rs.map Row.d)) (g := fun r => chg w 0 (r.at c)) hc rfl fun r hr => by
          have := changed_w (u := .int 0) (wa := 0) (wb := 0) (wc := 0) hw hc (hm r hr) s
          have e0 : wv 0 0 0 r.m = 0 := by unfold wv; split <;> (try split) <;> rfl
          rw [e0] at this
          exact this
        have nw : ¬ w = "add" := by rcases hw with rfl | rfl | rfl <;> decide
        simp only [evDef, startE, evSs, evEs, evO, evIf, evSrc, s_it1, s_it2, s_it3, e_lit, e_glob, e_var, e_pk, e_tup, e_lst, e_bin, e_star, e_neg, e_cmp, e_isN, e_chain, e_and, e_or, e_not, e_ite, e_idx, e_slice, e_fld, e_call, e_blt, e_isi, e_join, e_comp, e_dcomp, e_dic0, e_cidx, e_cell, e_cget, e_clen, e_ccat, v_asg, v_asgO, v_unp, v_par, v_setI, v_setK, v_aug, v_app, v_exp, v_ret, v_retO, v_retN, v_ite, v_for_, v_pass, v_never, v_frz, v_cset, immAt, pkAt, MP.setI, ownAt, lstOwn, dicOwn, MP.setO, List.map_cons, List.map_nil, List.length_cons, List.length_nil, List.cons_append, List.nil_append, List.getElem?_cons_zero, List.getElem?_cons_succ, R.of_some, R.of_none, R.bind_ok, RS.of_ok, RS.seq_nx, RS.seq_ret, nc0, nc1, nc2, nc3, nc4, nc5, nc6, nc7, nc8, nc9, s_bind, s_map, s_eqI, s_neI, s_eqS, s_neS, atI_0, atI_1, atI_2, atI_3, s_int1, s_int2, s_max, s_mod, s_ix1, s_ix2, s_len1, s_len2, s_list1, s_list2, s_list3, s_tup1, s_tup2, decide_true, decide_false, if_true, if_false, s_ge, s_lt, s_le, s_gt, s_truth, List.set_cons_zero, List.set_cons_succ, s_mul, Bool.or_true, s_add1, s_add3, s_add4, s_sub, s_fdiv, Bool.and_true, Bool.false_eq_true, List.replicate, Nat.reduceAdd, Nat.reduceSub, Int.reduceAdd, Int.reduceSub, Int.reduceMul, fnL, constF, newCell, R.bind_stuck, k, wk, nw, it_abc, Bool.not_false]
        exact fin _ _ _ (by rw [fm_some, List.map_map]; rfl)
      | @sum w c c2 sc bh hw hc hc2 hsc =>
        have z : ∀ m, IsMk m → F_worth_for [.prg hd xs cs, .tup [.str "sum", .str c2, .str sc, .bl bh], .str m, .lst (rs.map Row.d)] s = .ok (.int (sumC (mks hd m sc bh) c2 rs)) s := fun m hm => worth_sum h1 hm hsc hc2 s
        have wk := worths_ok (w := .str w) (c := .str c) (n := .imm (.int xs.length)) (b := .imm (.dic [])) (z "a" (by simp [IsMk])) (z "b" (by simp [IsMk])) (z "c" (by simp [IsMk]))
        have k := rows_comp (p := .prg hd xs cs) (u := .tup [.str "sum", .str c2, .str sc, .bl bh]) (w := .str w) (n := .imm (.int xs.length)) (kv := .dic [(.str "a", .int (sumC (mks hd "a" sc bh) c2 rs)), (.str "b", .int (sumC (mks hd "b" sc bh) c2 rs)), (.str "c", .int (sumC (mks hd "c" sc bh) c2 rs))]) (S := s) (rows := rs) (t := .lst (rs.map Row.d)) (g := fun r => chg w (sumC (mks hd r.m sc bh) c2 rs) (r.at c)) hc rfl fun r hr => by
          have := changed_w (u := .tup [.str "sum", .str c2, .str sc, .bl bh]) (wa := sumC (mks hd "a" sc bh) c2 rs) (wb := sumC (mks hd "b" sc bh) c2 rs) (wc := sumC (mks hd "c" sc bh) c2 rs) hw hc (hm r hr) s
          have e0 : wv (sumC (mks hd "a" sc bh) c2 rs) (sumC (mks hd "b" sc bh) c2 rs) (sumC (mks hd "c" sc bh) c2 rs) r.m = sumC (mks hd r.m sc bh) c2 rs := by
            rcases hm r hr with e | e | e <;> rw [e] <;> rfl
          rw [e0] at this
          exact this
        have nw : ¬ w = "add" := by rcases hw with rfl | rfl | rfl <;> decide
        simp only [evDef, startE, evSs, evEs, evO, evIf, evSrc, s_it1, s_it2, s_it3, e_lit, e_glob, e_var, e_pk, e_tup, e_lst, e_bin, e_star, e_neg, e_cmp, e_isN, e_chain, e_and, e_or, e_not, e_ite, e_idx, e_slice, e_fld, e_call, e_blt, e_isi, e_join, e_comp, e_dcomp, e_dic0, e_cidx, e_cell, e_cget, e_clen, e_ccat, v_asg, v_asgO, v_unp, v_par, v_setI, v_setK, v_aug, v_app, v_exp, v_ret, v_retO, v_retN, v_ite, v_for_, v_pass, v_never, v_frz, v_cset, immAt, pkAt, MP.setI, ownAt, lstOwn, dicOwn, MP.setO, List.map_cons, List.map_nil, List.length_cons, List.length_nil, List.cons_append, List.nil_append, List.getElem?_cons_zero, List.getElem?_cons_succ, R.of_some, R.of_none, R.bind_ok, RS.of_ok, RS.seq_nx, RS.seq_ret, nc0, nc1, nc2, nc3, nc4, nc5, nc6, nc7, nc8, nc9, s_bind, s_map, s_eqI, s_neI, s_eqS, s_neS, atI_0, atI_1, atI_2, atI_3, s_int1, s_int2, s_max, s_mod, s_ix1, s_ix2, s_len1, s_len2, s_list1, s_list2, s_list3, s_tup1, s_tup2, decide_true, decide_false, if_true, if_false, s_ge, s_lt, s_le, s_gt, s_truth, List.set_cons_zero, List.set_cons_succ, s_mul, Bool.or_true, s_add1, s_add3, s_add4, s_sub, s_fdiv, Bool.and_true, Bool.false_eq_true, List.replicate, Nat.reduceAdd, Nat.reduceSub, Int.reduceAdd, Int.reduceSub, Int.reduceMul, fnL, constF, newCell, R.bind_stuck, k, wk, nw, it_abc, Bool.not_false]
        exact fin _ _ _ (by rw [fm_some, List.map_map]; rfl)
    · rintro ρ s ⟨gs, rs, a, b, q, rfl, hm, e, rfl⟩
      cases q
      simp only [evDef, startE, evSs, evEs, evO, evIf, evSrc, s_it1, s_it2, s_it3, e_lit, e_glob, e_var, e_pk, e_tup, e_lst, e_bin, e_star, e_neg, e_cmp, e_isN, e_chain, e_and, e_or, e_not, e_ite, e_idx, e_slice, e_fld, e_call, e_blt, e_isi, e_join, e_comp, e_dcomp, e_dic0, e_cidx, e_cell, e_cget, e_clen, e_ccat, v_asg, v_asgO, v_unp, v_par, v_setI, v_setK, v_aug, v_app, v_exp, v_ret, v_retO, v_retN, v_ite, v_for_, v_pass, v_never, v_frz, v_cset, immAt, pkAt, MP.setI, ownAt, lstOwn, dicOwn, MP.setO, List.map_cons, List.map_nil, List.length_cons, List.length_nil, List.cons_append, List.nil_append, List.getElem?_cons_zero, List.getElem?_cons_succ, R.of_some, R.of_none, R.bind_ok, RS.of_ok, RS.seq_nx, RS.seq_ret, nc0, nc1, nc2, nc3, nc4, nc5, nc6, nc7, nc8, nc9, s_bind, s_map, s_eqI, s_neI, s_eqS, s_neS, atI_0, atI_1, atI_2, atI_3, s_int1, s_int2, s_max, s_mod, s_ix1, s_ix2, s_len1, s_len2, s_list1, s_list2, s_list3, s_tup1, s_tup2, decide_true, decide_false, if_true, if_false, s_ge, s_lt, s_le, s_gt, s_truth, List.set_cons_zero, List.set_cons_succ, s_mul, Bool.or_true, s_add1, s_add3, s_add4, s_sub, s_fdiv, Bool.and_true, Bool.false_eq_true, List.replicate, Nat.reduceAdd, Nat.reduceSub, Int.reduceAdd, Int.reduceSub, Int.reduceMul, fnL, constF, newCell, R.bind_stuck]
      exact Rt.ret ⟨by rw [← e]; rfl, rfl⟩
  obtain ⟨d, S', e, rfl, rfl⟩ := run
  exact e
end Gk15

namespace Gk15
open PySem MP
theorem mark_ok {m : Str} (h : IsMk m) (S : Sto) : F_is_mark [.str m] S = .ok (.bl true) S := by
  rcases h with rfl | rfl | rfl <;> kernel_rfl
theorem anyint_ok (i : Int) (S : Sto) : F_is_integer [.int i, .non, .non] S = .ok (.bl true) S := by
  simp only [evDef, startE, evSs, evEs, evO, evIf, evSrc, s_it1, s_it2, s_it3, e_lit, e_glob, e_var, e_pk, e_tup, e_lst, e_bin, e_star, e_neg, e_cmp, e_isN, e_chain, e_and, e_or, e_not, e_ite, e_idx, e_slice, e_fld, e_call, e_blt, e_isi, e_join, e_comp, e_dcomp, e_dic0, e_cidx, e_cell, e_cget, e_clen, e_ccat, v_asg, v_asgO, v_unp, v_par, v_setI, v_setK, v_aug, v_app, v_exp, v_ret, v_retO, v_retN, v_ite, v_for_, v_pass, v_never, v_frz, v_cset, immAt, pkAt, MP.setI, ownAt, lstOwn, dicOwn, MP.setO, List.map_cons, List.map_nil, List.length_cons, List.length_nil, List.cons_append, List.nil_append, List.getElem?_cons_zero, List.getElem?_cons_succ, R.of_some, R.of_none, R.bind_ok, RS.of_ok, RS.seq_nx, RS.seq_ret, nc0, nc1, nc2, nc3, nc4, nc5, nc6, nc7, nc8, nc9, s_bind, s_map, s_eqI, s_neI, s_eqS, s_neS, atI_0, atI_1, atI_2, atI_3, s_int1, s_int2, s_max, s_mod, s_ix1, s_ix2, s_len1, s_len2, s_list1, s_list2, s_list3, s_tup1, s_tup2, decide_true, decide_false, if_true, if_false, s_ge, s_lt, s_le, s_gt, s_truth, List.set_cons_zero, List.set_cons_succ, s_mul, Bool.or_true, s_add1, s_add3, s_add4, s_sub, s_fdiv, Bool.and_true, Bool.false_eq_true, List.replicate, Nat.reduceAdd, Nat.reduceSub, Int.reduceAdd, Int.reduceSub, Int.reduceMul, fnL, constF, newCell, R.bind_stuck, F_is_integer, b_is_integer, N_is_integer, isTys, List.any_cons, List.any_nil, isTy, dNot, Bool.or_false, Bool.not_true, isNb, Bool.not_false]
theorem row_ok {r : Row} (h : IsMk r.m) (S : Sto) : F_is_row [r.d] S = .ok (.bl true) S := by
  have e1 := mark_ok h S
  have key : ∀ (a : MP.Slot), compS (fnL [F_is_mark, F_is_integer]) [1] (.one 1) none (.or (.isN false (.var 1)) (.call 1 [.var 1, .lit (.non), .lit (.non)])) [a, .no] [ent r.x, ent r.y] S = .ok [.bl true, .bl true] S := fun a => by
    unfold compS
    cases r.x <;> cases r.y <;> simp only [compLoop, evDef, startE, evSs, evEs, evO, evIf, evSrc, s_it1, s_it2, s_it3, e_lit, e_glob, e_var, e_pk, e_tup, e_lst, e_bin, e_star, e_neg, e_cmp, e_isN, e_chain, e_and, e_or, e_not, e_ite, e_idx, e_slice, e_fld, e_call, e_blt, e_isi, e_join, e_comp, e_dcomp, e_dic0, e_cidx, e_cell, e_cget, e_clen, e_ccat, v_asg, v_asgO, v_unp, v_par, v_setI, v_setK, v_aug, v_app, v_exp, v_ret, v_retO, v_retN, v_ite, v_for_, v_pass, v_never, v_frz, v_cset, immAt, pkAt, MP.setI, ownAt, lstOwn, dicOwn, MP.setO, List.map_cons, List.map_nil, List.length_cons, List.length_nil, List.cons_append, List.nil_append, List.getElem?_cons_zero, List.getElem?_cons_succ, R.of_some, R.of_none, R.bind_ok, RS.of_ok, RS.seq_nx, RS.seq_ret, nc0, nc1, nc2, nc3, nc4, nc5, nc6, nc7, nc8, nc9, s_bind, s_map, s_eqI, s_neI, s_eqS, s_neS, atI_0, atI_1, atI_2, atI_3, s_int1, s_int2, s_max, s_mod, s_ix1, s_ix2, s_len1, s_len2, s_list1, s_list2, s_list3, s_tup1, s_tup2, decide_true, decide_false, if_true, if_false, s_ge, s_lt, s_le, s_gt, s_truth, List.set_cons_zero, List.set_cons_succ, s_mul, Bool.or_true, s_add1, s_add3, s_add4, s_sub, s_fdiv, Bool.and_true, Bool.false_eq_true, List.replicate, Nat.reduceAdd, Nat.reduceSub, Int.reduceAdd, Int.reduceSub, Int.reduceMul, fnL, constF, newCell, R.bind_stuck, bindTg, wipeE, ent, isNb, anyint_ok, R.nox_ok, Bool.not_true, Bool.not_false]
  have al : dBlt .all [.lst [.bl true, .bl true]] = some (.bl true) := rfl
  simp only [evDef, startE, evSs, evEs, evO, evIf, evSrc, s_it1, s_it2, s_it3, e_lit, e_glob, e_var, e_pk, e_tup, e_lst, e_bin, e_star, e_neg, e_cmp, e_isN, e_chain, e_and, e_or, e_not, e_ite, e_idx, e_slice, e_fld, e_call, e_blt, e_isi, e_join, e_comp, e_dcomp, e_dic0, e_cidx, e_cell, e_cget, e_clen, e_ccat, v_asg, v_asgO, v_unp, v_par, v_setI, v_setK, v_aug, v_app, v_exp, v_ret, v_retO, v_retN, v_ite, v_for_, v_pass, v_never, v_frz, v_cset, immAt, pkAt, MP.setI, ownAt, lstOwn, dicOwn, MP.setO, List.map_cons, List.map_nil, List.length_cons, List.length_nil, List.cons_append, List.nil_append, List.getElem?_cons_zero, List.getElem?_cons_succ, R.of_some, R.of_none, R.bind_ok, RS.of_ok, RS.seq_nx, RS.seq_ret, nc0, nc1, nc2, nc3, nc4, nc5, nc6, nc7, nc8, nc9, s_bind, s_map, s_eqI, s_neI, s_eqS, s_neS, atI_0, atI_1, atI_2, atI_3, s_int1, s_int2, s_max, s_mod, s_ix1, s_ix2, s_len1, s_len2, s_list1, s_list2, s_list3, s_tup1, s_tup2, decide_true, decide_false, if_true, if_false, s_ge, s_lt, s_le, s_gt, s_truth, List.set_cons_zero, List.set_cons_succ, s_mul, Bool.or_true, s_add1, s_add3, s_add4, s_sub, s_fdiv, Bool.and_true, Bool.false_eq_true, List.replicate, Nat.reduceAdd, Nat.reduceSub, Int.reduceAdd, Int.reduceSub, Int.reduceMul, fnL, constF, newCell, R.bind_stuck, F_is_row, b_is_row, N_is_row, Row.d, isTys, List.any_cons, List.any_nil, isTy, dNot, Bool.or_false, Bool.not_true, Bool.not_false, e1, sl_t, asInt, cut_e, key, al]
theorem check_ok {rows : List Row} (h : ∀ r ∈ rows, IsMk r.m) (S : Sto) : F_check_table [.lst (rows.map Row.d)] S = .ok .non S := by
  have run : Rs (F_check_table [.lst (rows.map Row.d)] S) fun d S' => d = .non ∧ S' = S := by
    refine def_run ?_
    simp only [evDef, startE, evSs, evEs, evO, evIf, evSrc, s_it1, s_it2, s_it3, e_lit, e_glob, e_var, e_pk, e_tup, e_lst, e_bin, e_star, e_neg, e_cmp, e_isN, e_chain, e_and, e_or, e_not, e_ite, e_idx, e_slice, e_fld, e_call, e_blt, e_isi, e_join, e_comp, e_dcomp, e_dic0, e_cidx, e_cell, e_cget, e_clen, e_ccat, v_asg, v_asgO, v_unp, v_par, v_setI, v_setK, v_aug, v_app, v_exp, v_ret, v_retO, v_retN, v_ite, v_for_, v_pass, v_never, v_frz, v_cset, immAt, pkAt, MP.setI, ownAt, lstOwn, dicOwn, MP.setO, List.map_cons, List.map_nil, List.length_cons, List.length_nil, List.cons_append, List.nil_append, List.getElem?_cons_zero, List.getElem?_cons_succ, R.of_some, R.of_none, R.bind_ok, RS.of_ok, RS.seq_nx, RS.seq_ret, nc0, nc1, nc2, nc3, nc4, nc5, nc6, nc7, nc8, nc9, s_bind, s_map, s_eqI, s_neI, s_eqS, s_neS, atI_0, atI_1, atI_2, atI_3, s_int1, s_int2, s_max, s_mod, s_ix1, s_ix2, s_len1, s_len2, s_list1, s_list2, s_list3, s_tup1, s_tup2, decide_true, decide_false, if_true, if_false, s_ge, s_lt, s_le, s_gt, s_truth, List.set_cons_zero, List.set_cons_succ, s_mul, Bool.or_true, s_add1, s_add3, s_add4, s_sub, s_fdiv, Bool.and_true, Bool.false_eq_true, List.replicate, Nat.reduceAdd, Nat.reduceSub, Int.reduceAdd, Int.reduceSub, Int.reduceMul, fnL, constF, newCell, R.bind_stuck, b_check_table, N_check_table, isTys, List.any_cons, List.any_nil, isTy, dNot, Bool.or_false, Bool.not_true, lstItems]
    refine Rt.seq (forS_run (fun ds ρ s => ∃ (k : Nat) (ys : List Row) (a b : MP.Slot), ds = enumFrom' k (ys.map Row.d) ∧ ρ = [.imm (.lst (rows.map Row.d)), a, b] ∧ (∀ r ∈ ys, IsMk r.m) ∧ s = S) ?_ ⟨0, rows, _, _, rfl, rfl, h, rfl⟩) ?_
    · rintro d ds ρ s ⟨k, ys, a, b, e, rfl, hm, rfl⟩
      cases ys with
      | nil => cases e
      | cons y ys =>
        simp only [List.map_cons, enumFrom', List.cons.injEq] at e
        obtain ⟨rfl, rfl⟩ := e
        refine ⟨_, rfl, ?_⟩
        have e1 := row_ok (hm y List.mem_cons_self) s
        simp only [evDef, startE, evSs, evEs, evO, evIf, evSrc, s_it1, s_it2, s_it3, e_lit, e_glob, e_var, e_pk, e_tup, e_lst, e_bin, e_star, e_neg, e_cmp, e_isN, e_chain, e_and, e_or, e_not, e_ite, e_idx, e_slice, e_fld, e_call, e_blt, e_isi, e_join, e_comp, e_dcomp, e_dic0, e_cidx, e_cell, e_cget, e_clen, e_ccat, v_asg, v_asgO, v_unp, v_par, v_setI, v_setK, v_aug, v_app, v_exp, v_ret, v_retO, v_retN, v_ite, v_for_, v_pass, v_never, v_frz, v_cset, immAt, pkAt, MP.setI, ownAt, lstOwn, dicOwn, MP.setO, List.map_cons, List.map_nil, List.length_cons, List.length_nil, List.cons_append, List.nil_append, List.getElem?_cons_zero, List.getElem?_cons_succ, R.of_some, R.of_none, R.bind_ok, RS.of_ok, RS.seq_nx, RS.seq_ret, nc0, nc1, nc2, nc3, nc4, nc5, nc6, nc7, nc8, nc9, s_bind, s_map, s_eqI, s_neI, s_eqS, s_neS, atI_0, atI_1, atI_2, atI_3, s_int1, s_int2, s_max, s_mod, s_ix1, s_ix2, s_len1, s_len2, s_list1, s_list2, s_list3, s_tup1, s_tup2, decide_true, decide_false, if_true, if_false, s_ge, s_lt, s_le, s_gt, s_truth, List.set_cons_zero, List.set_cons_succ, s_mul, Bool.or_true, s_add1, s_add3, s_add4, s_sub, s_fdiv, Bool.and_true, Bool.false_eq_true, List.replicate, Nat.reduceAdd, Nat.reduceSub, Int.reduceAdd, Int.reduceSub, Int.reduceMul, fnL, constF, newCell, R.bind_stuck, setAll, e1, dNot, Bool.not_true]
        exact Rt.nx ⟨k + 1, ys, _, _, rfl, rfl, fun r hr => hm r (List.mem_cons_of_mem y hr), rfl⟩
    · rintro ρ s ⟨k, ys, a, b, e, rfl, hm, rfl⟩
      exact Rt.nx ⟨trivial, rfl⟩
  obtain ⟨d, S', e, rfl, rfl⟩ := run
  exact e
theorem done_ok {hd cs : Str} {xs : List D} {fs : List (List Row → List Row)} {rows : List Row} (h1 : IsHeld hd) (hp : Ps hd xs fs) (hr : ∀ r ∈ rows, IsMk r.m) (S : Sto) :
    F_done [.prg hd xs cs, .lst (rows.map Row.d)] S = .ok (.lst ((fs.foldl (fun rs f => f rs) rows).map Row.d)) S := by
  have e1 := check_ok hr S
  have e2 := stepped_ok (cs := cs) h1 hp hr S
  have f0 : dFld .rows (.prg hd xs cs) = some (.tup xs) := rfl
  simp only [evDef, startE, evSs, evEs, evO, evIf, evSrc, s_it1, s_it2, s_it3, e_lit, e_glob, e_var, e_pk, e_tup, e_lst, e_bin, e_star, e_neg, e_cmp, e_isN, e_chain, e_and, e_or, e_not, e_ite, e_idx, e_slice, e_fld, e_call, e_blt, e_isi, e_join, e_comp, e_dcomp, e_dic0, e_cidx, e_cell, e_cget, e_clen, e_ccat, v_asg, v_asgO, v_unp, v_par, v_setI, v_setK, v_aug, v_app, v_exp, v_ret, v_retO, v_retN, v_ite, v_for_, v_pass, v_never, v_frz, v_cset, immAt, pkAt, MP.setI, ownAt, lstOwn, dicOwn, MP.setO, List.map_cons, List.map_nil, List.length_cons, List.length_nil, List.cons_append, List.nil_append, List.getElem?_cons_zero, List.getElem?_cons_succ, R.of_some, R.of_none, R.bind_ok, RS.of_ok, RS.seq_nx, RS.seq_ret, nc0, nc1, nc2, nc3, nc4, nc5, nc6, nc7, nc8, nc9, s_bind, s_map, s_eqI, s_neI, s_eqS, s_neS, atI_0, atI_1, atI_2, atI_3, s_int1, s_int2, s_max, s_mod, s_ix1, s_ix2, s_len1, s_len2, s_list1, s_list2, s_list3, s_tup1, s_tup2, decide_true, decide_false, if_true, if_false, s_ge, s_lt, s_le, s_gt, s_truth, List.set_cons_zero, List.set_cons_succ, s_mul, Bool.or_true, s_add1, s_add3, s_add4, s_sub, s_fdiv, Bool.and_true, Bool.false_eq_true, List.replicate, Nat.reduceAdd, Nat.reduceSub, Int.reduceAdd, Int.reduceSub, Int.reduceMul, fnL, constF, newCell, R.bind_stuck, F_done, b_done, N_done, e1, f0, e2]
/-! ### the law of it: sums -/
def sumE (k : Int) (a : Option Int) (b : Option Int) : Option Int := match a, b with | some i, some j => some (i + k * j) | _, _ => none
/-- b stands beside a: the same marks, the same gaps; c is a + k b -/
inductive Tri (k : Int) : List Row → List Row → List Row → Prop
  | nil : Tri k [] [] []
  | cons {a b c : Row} {as bs cs : List Row} : b.m = a.m → c.m = a.m → (a.x.isSome = b.x.isSome) → (a.y.isSome = b.y.isSome) → c.x = sumE k a.x b.x → c.y = sumE k a.y b.y → Tri k as bs cs → Tri k (a :: as) (b :: bs) (c :: cs)
theorem sumC_tri {k : Int} {c : Str} {ms : List Str} {as bs cs : List Row} (h : Tri k as bs cs) (hc : c = "x" ∨ c = "y") : sumC ms c cs = sumC ms c as + k * sumC ms c bs := by
  induction h with
  | nil => simp [sumC]
  | @cons a b d as bs cs m1 m2 gx gy ex ey t ih =>
    have ea : ∀ (r : Row) (rs : List Row), sumC ms c (r :: rs) = (if r.m ∈ ms then (r.at c).getD 0 else 0) + sumC ms c rs := fun r rs => by
      unfold sumC
      rw [List.filter_cons]
      by_cases hm : r.m ∈ ms
      · simp only [hm, decide_true, if_true, List.filterMap_cons]
        cases r.at c <;> simp
      · simp [hm]
    rw [ea, ea, ea, ih, m1, m2]
    by_cases hm : a.m ∈ ms
    · simp only [hm, if_true]
      have : (d.at c).getD 0 = (a.at c).getD 0 + k * (b.at c).getD 0 := by
        rcases hc with rfl | rfl
        · show d.x.getD 0 = a.x.getD 0 + k * b.x.getD 0
          rw [ex]
          cases hx : a.x <;> cases hy : b.x <;> rw [hx, hy] at gx <;> simp_all [sumE]
        · show d.y.getD 0 = a.y.getD 0 + k * b.y.getD 0
          rw [ey]
          cases hx : a.y <;> cases hy : b.y <;> rw [hx, hy] at gy <;> simp_all [sumE]
      rw [this, Int.mul_add]
      omega
    · simp only [hm, if_false]
      rw [Int.mul_add]
      omega
end Gk15

namespace Gk15
open PySem MP
structure Tri1 (k : Int) (a b c : Row) : Prop where
  m1 : b.m = a.m
  m2 : c.m = a.m
  gx : a.x.isSome = b.x.isSome
  gy : a.y.isSome = b.y.isSome
  ex : c.x = sumE k a.x b.x
  ey : c.y = sumE k a.y b.y
theorem Tri1.at {k : Int} {a b c : Row} (h : Tri1 k a b c) (cl : Str) : (a.at cl).isSome = (b.at cl).isSome ∧ c.at cl = sumE k (a.at cl) (b.at cl) := by
  unfold Row.at
  split
  · exact ⟨h.gx, h.ex⟩
  · exact ⟨h.gy, h.ey⟩
theorem Tri1.put {k : Int} {a b c : Row} (h : Tri1 k a b c) (cl : Str) {i j l : Option Int} (g : i.isSome = j.isSome) (e : l = sumE k i j) : Tri1 k (a.put cl i) (b.put cl j) (c.put cl l) := by
  unfold Row.put
  split
  · exact ⟨h.m1, h.m2, g, h.gy, e, h.ey⟩
  · exact ⟨h.m1, h.m2, h.gx, g, h.ex, e⟩
theorem Tri.map {k : Int} {as bs cs : List Row} (h : Tri k as bs cs) {ga gb gc : Row → Row} (hg : ∀ a b c, Tri1 k a b c → Tri1 k (ga a) (gb b) (gc c)) : Tri k (as.map ga) (bs.map gb) (cs.map gc) := by
  induction h with
  | nil => exact .nil
  | cons m1 m2 gx gy ex ey t ih =>
    have q := hg _ _ _ ⟨m1, m2, gx, gy, ex, ey⟩
    exact .cons q.m1 q.m2 q.gx q.gy q.ex q.ey ih
theorem chg_lin {k : Int} {w : Str} (va vb : Int) {i j : Option Int} (g : i.isSome = j.isSome) : (chg w va i).isSome = (chg w vb j).isSome ∧ chg w (va + k * vb) (sumE k i j) = sumE k (chg w va i) (chg w vb j) := by
  unfold chg
  cases i <;> cases j <;> simp at g
  · split
    · exact ⟨rfl, rfl⟩
    · split <;> exact ⟨rfl, rfl⟩
  · split
    · exact ⟨rfl, rfl⟩
    · split
      · exact ⟨rfl, rfl⟩
      · refine ⟨rfl, ?_⟩
        simp only [sumE, Option.map_some, Option.some.injEq]
        rw [Int.mul_sub]
        omega
theorem addE_lin {k : Int} {i j i2 j2 : Option Int} (g : i.isSome = j.isSome) (g2 : i2.isSome = j2.isSome) : (addE i i2).isSome = (addE j j2).isSome ∧ addE (sumE k i j) (sumE k i2 j2) = sumE k (addE i i2) (addE j j2) := by
  cases i <;> cases j <;> simp at g <;> cases i2 <;> cases j2 <;> simp at g2
  · exact ⟨rfl, rfl⟩
  · exact ⟨rfl, rfl⟩
  · exact ⟨rfl, rfl⟩
  · refine ⟨rfl, ?_⟩
    simp only [sumE, addE, Option.some.injEq]
    rw [Int.mul_add]
    omega
theorem step_lin {k : Int} {hd : Str} {d : D} {f : List Row → List Row} (h : IsP hd d f) {as bs cs : List Row} (t : Tri k as bs cs) : Tri k (f as) (f bs) (f cs) := by
  cases h with
  | @add c e hc he =>
    refine t.map fun a b d q => ?_
    obtain ⟨p1, p2⟩ := q.at c
    obtain ⟨p3, p4⟩ := q.at e
    obtain ⟨p5, p6⟩ := addE_lin (k := k) p1 p3
    exact q.put c p5 (by rw [p2, p4, p6])
  | @zero w c hw hc =>
    refine t.map fun a b d q => ?_
    obtain ⟨p1, p2⟩ := q.at c
    obtain ⟨p5, p6⟩ := chg_lin (k := k) (w := w) 0 0 p1
    rw [Int.mul_zero, Int.add_zero] at p6
    exact q.put c p5 (by rw [p2, p6])
  | @sum w c c2 sc bh hw hc hc2 hsc =>
    refine t.map fun a b d q => ?_
    obtain ⟨p1, p2⟩ := q.at c
    obtain ⟨p5, p6⟩ := chg_lin (k := k) (w := w) (sumC (mks hd a.m sc bh) c2 as) (sumC (mks hd a.m sc bh) c2 bs) p1
    rw [q.m1, q.m2]
    refine q.put c p5 ?_
    rw [sumC_tri t hc2, p2, p6]
theorem all_lin {k : Int} {hd : Str} : ∀ {xs : List D} {fs : List (List Row → List Row)} {as bs cs : List Row}, Ps hd xs fs → Tri k as bs cs → Tri k (fs.foldl (fun r f => f r) as) (fs.foldl (fun r f => f r) bs) (fs.foldl (fun r f => f r) cs)
  | _, _, _, _, _, .nil, t => t
  | _, _, _, _, _, .cons h q, t => by
    simp only [List.foldl_cons]
    exact all_lin q (step_lin h t)
end Gk15

namespace Gk15
open PySem MP
theorem Ps.snoc {hd : Str} : ∀ {ds : List D} {fs : List (List Row → List Row)} {d : D} {f : List Row → List Row}, Ps hd ds fs → IsP hd d f → Ps hd (ds ++ [d]) (fs ++ [f])
  | _, _, _, _, .nil, h => .cons h .nil
  | _, _, _, _, .cons q t, h => .cons q (t.snoc h)
theorem IsP.st {hd : Str} {d : D} {f : List Row → List Row} (h : IsP hd d f) : IsSt d ∧ isT d = false := by
  cases h with
  | add hc he => exact ⟨.add hc he, rfl⟩
  | @zero w c hw hc => exact ⟨.put (by rcases hw with e | e | e <;> simp [e]) hc (.int (by decide) (by decide)), by rcases hw with rfl | rfl | rfl <;> rfl⟩
  | @sum w c c2 sc bh hw hc hc2 hsc => exact ⟨.put (by rcases hw with e | e | e <;> simp [e]) hc (.tup (.inl rfl) hc2 hsc), by rcases hw with rfl | rfl | rfl <;> rfl⟩
theorem Ps.ok {hd : Str} : ∀ {ds : List D} {fs : List (List Row → List Row)}, Ps hd ds fs → (∀ d ∈ ds, IsSt d) ∧ ds.filterMap gT = []
  | _, _, .nil => ⟨by simp, rfl⟩
  | _, _, .cons h t => by
    obtain ⟨a, b⟩ := h.st
    obtain ⟨c, d⟩ := t.ok
    refine ⟨fun e he => ?_, ?_⟩
    · rcases List.mem_cons.mp he with rfl | he
      · exact a
      · exact c e he
    · rw [List.filterMap_cons]
      simp [gT, b, d]
theorem Ps.steps {hd : Str} {ds : List D} {fs : List (List Row → List Row)} (h : Ps hd ds fs) : StepsOk ds := ⟨h.ok.1, by rw [h.ok.2]; simp⟩
abbrev fnW : Nat → FS := fnL [F_law_mix, F_law_parts, F_new_Program, F_law_table, F_law_next, F_law_sum, F_done]
abbrev bPlain : List MP.St := [.ite (.cmp .eq (.idx (.var 4) (.lit (.int 0))) (.lit (.str "times"))) [.asg 4 (.bin .add (.tup [.lit (.str "less")]) (.slice (.var 4) (some (.lit (.int 1))) none))] [],
  .ite (.isi [.int] (.idx (.var 4) (.lit (.int 2)))) [.asg 4 (.bin .add (.slice (.var 4) none (some (.lit (.int 2)))) (.tup [.lit (.int 0)]))] [.ite (.isi [.tup] (.idx (.var 4) (.lit (.int 2)))) [.asg 4 (.bin .add (.slice (.var 4) none (some (.lit (.int 2)))) (.tup [.bin .add (.tup [.lit (.str "sum")]) (.slice (.idx (.var 4) (.lit (.int 2))) (some (.lit (.int 1))) none)]))] []],
  .app 3 (.var 4)]
theorem cut_f (a b c d : D) : cut [a, b, c, d] (some 1) none = [b, c, d] := rfl
theorem plain_one {hd : Str} {d : D} {xs : List D} {a b c : MP.Slot} {r : List MP.Slot} {S : Sto} (h : IsSt d) (hl : xs.length ≤ 5) : ∃ e f, IsP hd e f ∧ evSs fnW (a :: b :: c :: .own (.lst xs) :: .imm d :: r) bPlain S = .nx (a :: b :: c :: .own (.lst (xs ++ [e])) :: .imm e :: r) S := by
  have ha : ∀ x, dApp xs x = some (.lst (xs ++ [x])) := fun x => if_pos (by rw [BIGv]; omega)
  have hT3 : ∀ x y z : D, mkTup [x, y, z] = some (.tup [x, y, z]) := fun x y z => mkT_of (n := 3) rfl (by decide)
  have hT1 : ∀ x : D, mkTup [x] = some (.tup [x]) := fun x => mkT_of (n := 1) rfl (by decide)
  have hT4 : ∀ x y z w : D, mkTup [x, y, z, w] = some (.tup [x, y, z, w]) := fun x y z w => mkT_of (n := 4) rfl (by decide)
  cases h with
  | @add c1 c2 h1 h2 =>
    refine ⟨_, _, .add h1 h2, ?_⟩
    simp only [evDef, startE, evSs, evEs, evO, evIf, evSrc, s_it1, s_it2, s_it3, e_lit, e_glob, e_var, e_pk, e_tup, e_lst, e_bin, e_star, e_neg, e_cmp, e_isN, e_chain, e_and, e_or, e_not, e_ite, e_idx, e_slice, e_fld, e_call, e_blt, e_isi, e_join, e_comp, e_dcomp, e_dic0, e_cidx, e_cell, e_cget, e_clen, e_ccat, v_asg, v_asgO, v_unp, v_par, v_setI, v_setK, v_aug, v_app, v_exp, v_ret, v_retO, v_retN, v_ite, v_for_, v_pass, v_never, v_frz, v_cset, immAt, pkAt, MP.setI, ownAt, lstOwn, dicOwn, MP.setO, List.map_cons, List.map_nil, List.length_cons, List.length_nil, List.cons_append, List.nil_append, List.getElem?_cons_zero, List.getElem?_cons_succ, R.of_some, R.of_none, R.bind_ok, RS.of_ok, RS.seq_nx, RS.seq_ret, nc0, nc1, nc2, nc3, nc4, nc5, nc6, nc7, nc8, nc9, s_bind, s_map, s_eqI, s_neI, s_eqS, s_neS, atI_0, atI_1, atI_2, atI_3, s_int1, s_int2, s_max, s_mod, s_ix1, s_ix2, s_len1, s_len2, s_list1, s_list2, s_list3, s_tup1, s_tup2, decide_true, decide_false, if_true, if_false, s_ge, s_lt, s_le, s_gt, s_truth, List.set_cons_zero, List.set_cons_succ, s_mul, Bool.or_true, s_add1, s_add3, s_add4, s_sub, s_fdiv, Bool.and_true, Bool.false_eq_true, List.replicate, Nat.reduceAdd, Nat.reduceSub, Int.reduceAdd, Int.reduceSub, Int.reduceMul, fnL, constF, newCell, R.bind_stuck, bPlain, isTys, List.any_cons, List.any_nil, isTy, Bool.or_false, (by decide : ¬ ("add" : Str) = "times"), ha]
  | @put w c1 v h1 h2 h3 =>
    cases h3 with
    | @int i p q =>
      rcases h1 with rfl | rfl | rfl | rfl
      · refine ⟨_, _, .zero (w := "fill") (by simp) h2, ?_⟩
        simp only [evDef, startE, evSs, evEs, evO, evIf, evSrc, s_it1, s_it2, s_it3, e_lit, e_glob, e_var, e_pk, e_tup, e_lst, e_bin, e_star, e_neg, e_cmp, e_isN, e_chain, e_and, e_or, e_not, e_ite, e_idx, e_slice, e_fld, e_call, e_blt, e_isi, e_join, e_comp, e_dcomp, e_dic0, e_cidx, e_cell, e_cget, e_clen, e_ccat, v_asg, v_asgO, v_unp, v_par, v_setI, v_setK, v_aug, v_app, v_exp, v_ret, v_retO, v_retN, v_ite, v_for_, v_pass, v_never, v_frz, v_cset, immAt, pkAt, MP.setI, ownAt, lstOwn, dicOwn, MP.setO, List.map_cons, List.map_nil, List.length_cons, List.length_nil, List.cons_append, List.nil_append, List.getElem?_cons_zero, List.getElem?_cons_succ, R.of_some, R.of_none, R.bind_ok, RS.of_ok, RS.seq_nx, RS.seq_ret, nc0, nc1, nc2, nc3, nc4, nc5, nc6, nc7, nc8, nc9, s_bind, s_map, s_eqI, s_neI, s_eqS, s_neS, atI_0, atI_1, atI_2, atI_3, s_int1, s_int2, s_max, s_mod, s_ix1, s_ix2, s_len1, s_len2, s_list1, s_list2, s_list3, s_tup1, s_tup2, decide_true, decide_false, if_true, if_false, s_ge, s_lt, s_le, s_gt, s_truth, List.set_cons_zero, List.set_cons_succ, s_mul, Bool.or_true, s_add1, s_add3, s_add4, s_sub, s_fdiv, Bool.and_true, Bool.false_eq_true, List.replicate, Nat.reduceAdd, Nat.reduceSub, Int.reduceAdd, Int.reduceSub, Int.reduceMul, fnL, constF, newCell, R.bind_stuck, bPlain, isTys, List.any_cons, List.any_nil, isTy, Bool.or_false, Bool.true_or, (by decide : ¬ ("fill" : Str) = "times"), ha, sl_t, asInt, cut_c, cut_e, hT1, hT3]
      · refine ⟨_, _, .zero (w := "less") (by simp) h2, ?_⟩
        simp only [evDef, startE, evSs, evEs, evO, evIf, evSrc, s_it1, s_it2, s_it3, e_lit, e_glob, e_var, e_pk, e_tup, e_lst, e_bin, e_star, e_neg, e_cmp, e_isN, e_chain, e_and, e_or, e_not, e_ite, e_idx, e_slice, e_fld, e_call, e_blt, e_isi, e_join, e_comp, e_dcomp, e_dic0, e_cidx, e_cell, e_cget, e_clen, e_ccat, v_asg, v_asgO, v_unp, v_par, v_setI, v_setK, v_aug, v_app, v_exp, v_ret, v_retO, v_retN, v_ite, v_for_, v_pass, v_never, v_frz, v_cset, immAt, pkAt, MP.setI, ownAt, lstOwn, dicOwn, MP.setO, List.map_cons, List.map_nil, List.length_cons, List.length_nil, List.cons_append, List.nil_append, List.getElem?_cons_zero, List.getElem?_cons_succ, R.of_some, R.of_none, R.bind_ok, RS.of_ok, RS.seq_nx, RS.seq_ret, nc0, nc1, nc2, nc3, nc4, nc5, nc6, nc7, nc8, nc9, s_bind, s_map, s_eqI, s_neI, s_eqS, s_neS, atI_0, atI_1, atI_2, atI_3, s_int1, s_int2, s_max, s_mod, s_ix1, s_ix2, s_len1, s_len2, s_list1, s_list2, s_list3, s_tup1, s_tup2, decide_true, decide_false, if_true, if_false, s_ge, s_lt, s_le, s_gt, s_truth, List.set_cons_zero, List.set_cons_succ, s_mul, Bool.or_true, s_add1, s_add3, s_add4, s_sub, s_fdiv, Bool.and_true, Bool.false_eq_true, List.replicate, Nat.reduceAdd, Nat.reduceSub, Int.reduceAdd, Int.reduceSub, Int.reduceMul, fnL, constF, newCell, R.bind_stuck, bPlain, isTys, List.any_cons, List.any_nil, isTy, Bool.or_false, Bool.true_or, (by decide : ¬ ("less" : Str) = "times"), ha, sl_t, asInt, cut_c, cut_e, hT1, hT3]
      · refine ⟨_, _, .zero (w := "put") (by simp) h2, ?_⟩
        simp only [evDef, startE, evSs, evEs, evO, evIf, evSrc, s_it1, s_it2, s_it3, e_lit, e_glob, e_var, e_pk, e_tup, e_lst, e_bin, e_star, e_neg, e_cmp, e_isN, e_chain, e_and, e_or, e_not, e_ite, e_idx, e_slice, e_fld, e_call, e_blt, e_isi, e_join, e_comp, e_dcomp, e_dic0, e_cidx, e_cell, e_cget, e_clen, e_ccat, v_asg, v_asgO, v_unp, v_par, v_setI, v_setK, v_aug, v_app, v_exp, v_ret, v_retO, v_retN, v_ite, v_for_, v_pass, v_never, v_frz, v_cset, immAt, pkAt, MP.setI, ownAt, lstOwn, dicOwn, MP.setO, List.map_cons, List.map_nil, List.length_cons, List.length_nil, List.cons_append, List.nil_append, List.getElem?_cons_zero, List.getElem?_cons_succ, R.of_some, R.of_none, R.bind_ok, RS.of_ok, RS.seq_nx, RS.seq_ret, nc0, nc1, nc2, nc3, nc4, nc5, nc6, nc7, nc8, nc9, s_bind, s_map, s_eqI, s_neI, s_eqS, s_neS, atI_0, atI_1, atI_2, atI_3, s_int1, s_int2, s_max, s_mod, s_ix1, s_ix2, s_len1, s_len2, s_list1, s_list2, s_list3, s_tup1, s_tup2, decide_true, decide_false, if_true, if_false, s_ge, s_lt, s_le, s_gt, s_truth, List.set_cons_zero, List.set_cons_succ, s_mul, Bool.or_true, s_add1, s_add3, s_add4, s_sub, s_fdiv, Bool.and_true, Bool.false_eq_true, List.replicate, Nat.reduceAdd, Nat.reduceSub, Int.reduceAdd, Int.reduceSub, Int.reduceMul, fnL, constF, newCell, R.bind_stuck, bPlain, isTys, List.any_cons, List.any_nil, isTy, Bool.or_false, Bool.true_or, (by decide : ¬ ("put" : Str) = "times"), ha, sl_t, asInt, cut_c, cut_e, hT1, hT3]
      · refine ⟨_, _, .zero (w := "less") (by simp) h2, ?_⟩
        simp only [evDef, startE, evSs, evEs, evO, evIf, evSrc, s_it1, s_it2, s_it3, e_lit, e_glob, e_var, e_pk, e_tup, e_lst, e_bin, e_star, e_neg, e_cmp, e_isN, e_chain, e_and, e_or, e_not, e_ite, e_idx, e_slice, e_fld, e_call, e_blt, e_isi, e_join, e_comp, e_dcomp, e_dic0, e_cidx, e_cell, e_cget, e_clen, e_ccat, v_asg, v_asgO, v_unp, v_par, v_setI, v_setK, v_aug, v_app, v_exp, v_ret, v_retO, v_retN, v_ite, v_for_, v_pass, v_never, v_frz, v_cset, immAt, pkAt, MP.setI, ownAt, lstOwn, dicOwn, MP.setO, List.map_cons, List.map_nil, List.length_cons, List.length_nil, List.cons_append, List.nil_append, List.getElem?_cons_zero, List.getElem?_cons_succ, R.of_some, R.of_none, R.bind_ok, RS.of_ok, RS.seq_nx, RS.seq_ret, nc0, nc1, nc2, nc3, nc4, nc5, nc6, nc7, nc8, nc9, s_bind, s_map, s_eqI, s_neI, s_eqS, s_neS, atI_0, atI_1, atI_2, atI_3, s_int1, s_int2, s_max, s_mod, s_ix1, s_ix2, s_len1, s_len2, s_list1, s_list2, s_list3, s_tup1, s_tup2, decide_true, decide_false, if_true, if_false, s_ge, s_lt, s_le, s_gt, s_truth, List.set_cons_zero, List.set_cons_succ, s_mul, Bool.or_true, s_add1, s_add3, s_add4, s_sub, s_fdiv, Bool.and_true, Bool.false_eq_true, List.replicate, Nat.reduceAdd, Nat.reduceSub, Int.reduceAdd, Int.reduceSub, Int.reduceMul, fnL, constF, newCell, R.bind_stuck, bPlain, isTys, List.any_cons, List.any_nil, isTy, Bool.or_false, Bool.true_or, ha, sl_t, asInt, cut_c, cut_e, hT1, hT3]
    | @tup w2 c2 sc bh p q t =>
      rcases h1 with rfl | rfl | rfl | rfl
      · refine ⟨_, _, .sum (w := "fill") (by simp) h2 q t (bh := bh), ?_⟩
        simp only [evDef, startE, evSs, evEs, evO, evIf, evSrc, s_it1, s_it2, s_it3, e_lit, e_glob, e_var, e_pk, e_tup, e_lst, e_bin, e_star, e_neg, e_cmp, e_isN, e_chain, e_and, e_or, e_not, e_ite, e_idx, e_slice, e_fld, e_call, e_blt, e_isi, e_join, e_comp, e_dcomp, e_dic0, e_cidx, e_cell, e_cget, e_clen, e_ccat, v_asg, v_asgO, v_unp, v_par, v_setI, v_setK, v_aug, v_app, v_exp, v_ret, v_retO, v_retN, v_ite, v_for_, v_pass, v_never, v_frz, v_cset, immAt, pkAt, MP.setI, ownAt, lstOwn, dicOwn, MP.setO, List.map_cons, List.map_nil, List.length_cons, List.length_nil, List.cons_append, List.nil_append, List.getElem?_cons_zero, List.getElem?_cons_succ, R.of_some, R.of_none, R.bind_ok, RS.of_ok, RS.seq_nx, RS.seq_ret, nc0, nc1, nc2, nc3, nc4, nc5, nc6, nc7, nc8, nc9, s_bind, s_map, s_eqI, s_neI, s_eqS, s_neS, atI_0, atI_1, atI_2, atI_3, s_int1, s_int2, s_max, s_mod, s_ix1, s_ix2, s_len1, s_len2, s_list1, s_list2, s_list3, s_tup1, s_tup2, decide_true, decide_false, if_true, if_false, s_ge, s_lt, s_le, s_gt, s_truth, List.set_cons_zero, List.set_cons_succ, s_mul, Bool.or_true, s_add1, s_add3, s_add4, s_sub, s_fdiv, Bool.and_true, Bool.false_eq_true, List.replicate, Nat.reduceAdd, Nat.reduceSub, Int.reduceAdd, Int.reduceSub, Int.reduceMul, fnL, constF, newCell, R.bind_stuck, bPlain, isTys, List.any_cons, List.any_nil, isTy, Bool.or_false, Bool.true_or, (by decide : ¬ ("fill" : Str) = "times"), ha, sl_t, asInt, cut_c, cut_e, cut_f, hT1, hT3, hT4]
      · refine ⟨_, _, .sum (w := "less") (by simp) h2 q t (bh := bh), ?_⟩
        simp only [evDef, startE, evSs, evEs, evO, evIf, evSrc, s_it1, s_it2, s_it3, e_lit, e_glob, e_var, e_pk, e_tup, e_lst, e_bin, e_star, e_neg, e_cmp, e_isN, e_chain, e_and, e_or, e_not, e_ite, e_idx, e_slice, e_fld, e_call, e_blt, e_isi, e_join, e_comp, e_dcomp, e_dic0, e_cidx, e_cell, e_cget, e_clen, e_ccat, v_asg, v_asgO, v_unp, v_par, v_setI, v_setK, v_aug, v_app, v_exp, v_ret, v_retO, v_retN, v_ite, v_for_, v_pass, v_never, v_frz, v_cset, immAt, pkAt, MP.setI, ownAt, lstOwn, dicOwn, MP.setO, List.map_cons, List.map_nil, List.length_cons, List.length_nil, List.cons_append, List.nil_append, List.getElem?_cons_zero, List.getElem?_cons_succ, R.of_some, R.of_none, R.bind_ok, RS.of_ok, RS.seq_nx, RS.seq_ret, nc0, nc1, nc2, nc3, nc4, nc5, nc6, nc7, nc8, nc9, s_bind, s_map, s_eqI, s_neI, s_eqS, s_neS, atI_0, atI_1, atI_2, atI_3, s_int1, s_int2, s_max, s_mod, s_ix1, s_ix2, s_len1, s_len2, s_list1, s_list2, s_list3, s_tup1, s_tup2, decide_true, decide_false, if_true, if_false, s_ge, s_lt, s_le, s_gt, s_truth, List.set_cons_zero, List.set_cons_succ, s_mul, Bool.or_true, s_add1, s_add3, s_add4, s_sub, s_fdiv, Bool.and_true, Bool.false_eq_true, List.replicate, Nat.reduceAdd, Nat.reduceSub, Int.reduceAdd, Int.reduceSub, Int.reduceMul, fnL, constF, newCell, R.bind_stuck, bPlain, isTys, List.any_cons, List.any_nil, isTy, Bool.or_false, Bool.true_or, (by decide : ¬ ("less" : Str) = "times"), ha, sl_t, asInt, cut_c, cut_e, cut_f, hT1, hT3, hT4]
      · refine ⟨_, _, .sum (w := "put") (by simp) h2 q t (bh := bh), ?_⟩
        simp only [evDef, startE, evSs, evEs, evO, evIf, evSrc, s_it1, s_it2, s_it3, e_lit, e_glob, e_var, e_pk, e_tup, e_lst, e_bin, e_star, e_neg, e_cmp, e_isN, e_chain, e_and, e_or, e_not, e_ite, e_idx, e_slice, e_fld, e_call, e_blt, e_isi, e_join, e_comp, e_dcomp, e_dic0, e_cidx, e_cell, e_cget, e_clen, e_ccat, v_asg, v_asgO, v_unp, v_par, v_setI, v_setK, v_aug, v_app, v_exp, v_ret, v_retO, v_retN, v_ite, v_for_, v_pass, v_never, v_frz, v_cset, immAt, pkAt, MP.setI, ownAt, lstOwn, dicOwn, MP.setO, List.map_cons, List.map_nil, List.length_cons, List.length_nil, List.cons_append, List.nil_append, List.getElem?_cons_zero, List.getElem?_cons_succ, R.of_some, R.of_none, R.bind_ok, RS.of_ok, RS.seq_nx, RS.seq_ret, nc0, nc1, nc2, nc3, nc4, nc5, nc6, nc7, nc8, nc9, s_bind, s_map, s_eqI, s_neI, s_eqS, s_neS, atI_0, atI_1, atI_2, atI_3, s_int1, s_int2, s_max, s_mod, s_ix1, s_ix2, s_len1, s_len2, s_list1, s_list2, s_list3, s_tup1, s_tup2, decide_true, decide_false, if_true, if_false, s_ge, s_lt, s_le, s_gt, s_truth, List.set_cons_zero, List.set_cons_succ, s_mul, Bool.or_true, s_add1, s_add3, s_add4, s_sub, s_fdiv, Bool.and_true, Bool.false_eq_true, List.replicate, Nat.reduceAdd, Nat.reduceSub, Int.reduceAdd, Int.reduceSub, Int.reduceMul, fnL, constF, newCell, R.bind_stuck, bPlain, isTys, List.any_cons, List.any_nil, isTy, Bool.or_false, Bool.true_or, (by decide : ¬ ("put" : Str) = "times"), ha, sl_t, asInt, cut_c, cut_e, cut_f, hT1, hT3, hT4]
      · refine ⟨_, _, .sum (w := "less") (by simp) h2 q t (bh := bh), ?_⟩
        simp only [evDef, startE, evSs, evEs, evO, evIf, evSrc, s_it1, s_it2, s_it3, e_lit, e_glob, e_var, e_pk, e_tup, e_lst, e_bin, e_star, e_neg, e_cmp, e_isN, e_chain, e_and, e_or, e_not, e_ite, e_idx, e_slice, e_fld, e_call, e_blt, e_isi, e_join, e_comp, e_dcomp, e_dic0, e_cidx, e_cell, e_cget, e_clen, e_ccat, v_asg, v_asgO, v_unp, v_par, v_setI, v_setK, v_aug, v_app, v_exp, v_ret, v_retO, v_retN, v_ite, v_for_, v_pass, v_never, v_frz, v_cset, immAt, pkAt, MP.setI, ownAt, lstOwn, dicOwn, MP.setO, List.map_cons, List.map_nil, List.length_cons, List.length_nil, List.cons_append, List.nil_append, List.getElem?_cons_zero, List.getElem?_cons_succ, R.of_some, R.of_none, R.bind_ok, RS.of_ok, RS.seq_nx, RS.seq_ret, nc0, nc1, nc2, nc3, nc4, nc5, nc6, nc7, nc8, nc9, s_bind, s_map, s_eqI, s_neI, s_eqS, s_neS, atI_0, atI_1, atI_2, atI_3, s_int1, s_int2, s_max, s_mod, s_ix1, s_ix2, s_len1, s_len2, s_list1, s_list2, s_list3, s_tup1, s_tup2, decide_true, decide_false, if_true, if_false, s_ge, s_lt, s_le, s_gt, s_truth, List.set_cons_zero, List.set_cons_succ, s_mul, Bool.or_true, s_add1, s_add3, s_add4, s_sub, s_fdiv, Bool.and_true, Bool.false_eq_true, List.replicate, Nat.reduceAdd, Nat.reduceSub, Int.reduceAdd, Int.reduceSub, Int.reduceMul, fnL, constF, newCell, R.bind_stuck, bPlain, isTys, List.any_cons, List.any_nil, isTy, Bool.or_false, Bool.true_or, ha, sl_t, asInt, cut_c, cut_e, cut_f, hT1, hT3, hT4]
theorem plain_loop {hd : Str} {a b c : MP.Slot} {r : List MP.Slot} {S : Sto} : ∀ {ds : List D} {xs : List D} {fs : List (List Row → List Row)} {z : MP.Slot}, (∀ d ∈ ds, IsSt d) → xs.length + ds.length ≤ 5 → Ps hd xs fs → ∃ ys gs z', Ps hd ys gs ∧ ys.length ≤ 5 ∧ forS fnW (.one 4) bPlain ds (a :: b :: c :: .own (.lst xs) :: z :: r) S = .nx (a :: b :: c :: .own (.lst ys) :: z' :: r) S
  | [], xs, fs, z, _, hl, p => ⟨xs, fs, z, p, by simpa using hl, rfl⟩
  | d :: ds, xs, fs, z, h, hl, p => by
    simp only [List.length_cons] at hl
    obtain ⟨e, f, q, ev⟩ := plain_one (hd := hd) (a := a) (b := b) (c := c) (r := r) (S := S) (xs := xs) (h d List.mem_cons_self) (by omega)
    obtain ⟨ys, gs, z', p', l', ev'⟩ := plain_loop (a := a) (b := b) (c := c) (r := r) (S := S) (ds := ds) (z := .imm e) (fun d hd => h d (List.mem_cons_of_mem _ hd)) (by rw [List.length_append]; simp; omega) (p.snoc q)
    refine ⟨ys, gs, z', p', l', ?_⟩
    rw [← ev']
    unfold forS
    simp only [forLoop, bindTg, MP.setI, List.set_cons_succ, List.set_cons_zero, R.of_some, RS.of_ok, ev, RS.seq_nx]
end Gk15

namespace Gk15
open PySem MP
/-- the same marks, the same gaps -/
inductive Gap : List Row → List Row → Prop
  | nil : Gap [] []
  | cons {a b : Row} {as bs : List Row} : b.m = a.m → a.x.isSome = b.x.isSome → a.y.isSome = b.y.isSome → Gap as bs → Gap (a :: as) (b :: bs)
def sumR (k : Int) (a b : Row) : Row := ⟨a.m, sumE k a.x b.x, sumE k a.y b.y⟩
theorem Gap.tri {k : Int} {as bs : List Row} (h : Gap as bs) : Tri k as bs (List.zipWith (sumR k) as bs) := by
  induction h with
  | nil => exact .nil
  | cons m x y t ih => exact .cons m rfl x y rfl rfl ih
theorem Gap.snoc {a b : Row} : ∀ {as bs : List Row}, Gap as bs → b.m = a.m → a.x.isSome = b.x.isSome → a.y.isSome = b.y.isSome → Gap (as ++ [a]) (bs ++ [b])
  | _, _, .nil, m, x, y => .cons m x y .nil
  | _, _, .cons m' x' y' t, m, x, y => .cons m' x' y' (t.snoc m x y)
theorem Tri.gap {k : Int} {as bs cs : List Row} (h : Tri k as bs cs) : Gap as bs ∧ cs = List.zipWith (sumR k) as bs := by
  induction h with
  | nil => exact ⟨.nil, rfl⟩
  | @cons a b c as bs cs m1 m2 gx gy ex ey t ih =>
    refine ⟨.cons m1 gx gy ih.1, ?_⟩
    rw [List.zipWith_cons_cons, ← ih.2]
    congr 1
    cases c
    simp only [sumR, Row.mk.injEq] at *
    exact ⟨m2, ex, ey⟩
/-- a number drawn beside an entry -/
theorem beside {e : Option Int} {n : Int} {S : Sto} {ρ : Env'} {i : Nat} (hh : immAt ρ 1 = some (.ref 1)) (he : immAt ρ i = some (ent e)) (h : HS S) : Rs (evE fnW ρ (.ite (.isN false (.var i)) (.lit (.non)) (.bin .sub (.call 4 [.var 1, .lit (.int 50)]) (.lit (.int n)))) S) fun d S' => ∃ e', d = ent e' ∧ e.isSome = e'.isSome ∧ HS S' := by
  cases e with
  | none =>
    simp only [e_ite, e_isN, e_var, he, R.of_some, R.bind_ok, ent, isNb, Bool.not_false, s_truth, if_true, e_lit]
    exact Rs.ok ⟨none, rfl, rfl, h⟩
  | some v =>
    obtain ⟨_, S1, e1, r, rfl, a1, b1, h1⟩ := next_ok (cap := 50) h (by decide) (by decide)
    simp only [e_ite, e_isN, e_var, he, R.of_some, R.bind_ok, ent, isNb, Bool.false_eq_true, s_truth, if_false, e_lit, e_bin, e_call, evEs, hh, fnL, List.getElem?_cons_succ, List.getElem?_cons_zero, e1, s_sub]
    exact Rs.ok ⟨some (r - n), rfl, rfl, h1⟩
abbrev bOther : List MP.St := [.asg 14 (.ite (.isN false (.var 14)) (.lit (.non)) (.bin .sub (.call 4 [.var 1, .lit (.int 50)]) (.lit (.int 20)))),
  .asg 15 (.ite (.isN false (.var 15)) (.lit (.non)) (.bin .sub (.call 4 [.var 1, .lit (.int 50)]) (.lit (.int 25)))),
  .app 11 (.tup [.var 13, .var 14, .var 15])]
theorem other_loop {s0 s2 s3 s4 s5 s6 s7 s8 s9 s10 s12 : MP.Slot} {r : List MP.Slot} : ∀ {as : List Row} {bs : List Row} {t u v : MP.Slot} {S : Sto}, HS S → bs.length + as.length ≤ 100 → ∃ cs t' u' v' S', Gap as cs ∧ HS S' ∧ forS fnW (.tup [13, 14, 15]) bOther (as.map Row.d) (s0 :: .imm (.ref 1) :: s2 :: s3 :: s4 :: s5 :: s6 :: s7 :: s8 :: s9 :: s10 :: .own (.lst (bs.map Row.d)) :: s12 :: t :: u :: v :: r) S = .nx (s0 :: .imm (.ref 1) :: s2 :: s3 :: s4 :: s5 :: s6 :: s7 :: s8 :: s9 :: s10 :: .own (.lst ((bs ++ cs).map Row.d)) :: s12 :: t' :: u' :: v' :: r) S'
  | [], bs, t, u, v, S, h, _ => ⟨[], t, u, v, S, .nil, h, by rw [List.append_nil]; rfl⟩
  | a :: as, bs, t, u, v, S, h, hl => by
    simp only [List.length_cons] at hl
    have hT : ∀ x y z : D, mkTup [x, y, z] = some (.tup [x, y, z]) := fun x y z => mkT_of (n := 3) rfl (by decide)
    have ha : ∀ x, dApp (bs.map Row.d) x = some (.lst (bs.map Row.d ++ [x])) := fun x => if_pos (by rw [BIGv, List.length_map]; omega)
    obtain ⟨_, S1, e1, x, rfl, gx, h1⟩ := beside (e := a.x) (n := 20) (i := 14) (ρ := s0 :: .imm (.ref 1) :: s2 :: s3 :: s4 :: s5 :: s6 :: s7 :: s8 :: s9 :: s10 :: .own (.lst (bs.map Row.d)) :: s12 :: .imm (.str a.m) :: .imm (ent a.x) :: .imm (ent a.y) :: r) rfl rfl h
    obtain ⟨_, S2, e2, y, rfl, gy, h2⟩ := beside (e := a.y) (n := 25) (i := 15) (ρ := s0 :: .imm (.ref 1) :: s2 :: s3 :: s4 :: s5 :: s6 :: s7 :: s8 :: s9 :: s10 :: .own (.lst (bs.map Row.d)) :: s12 :: .imm (.str a.m) :: .imm (ent x) :: .imm (ent a.y) :: r) rfl rfl h1
    obtain ⟨cs, t', u', v', S', g, h3, ev⟩ := other_loop (s0 := s0) (s2 := s2) (s3 := s3) (s4 := s4) (s5 := s5) (s6 := s6) (s7 := s7) (s8 := s8) (s9 := s9) (s10 := s10) (s12 := s12) (r := r) (as := as) (bs := bs ++ [⟨a.m, x, y⟩]) (t := .imm (.str a.m)) (u := .imm (ent x)) (v := .imm (ent y)) h2 (by rw [List.length_append]; simp; omega)
    refine ⟨⟨a.m, x, y⟩ :: cs, t', u', v', S', .cons rfl gx gy g, h3, ?_⟩
    rw [List.append_assoc, List.singleton_append] at ev
    rw [← ev]
    unfold forS
    rw [List.map_cons]
    simp only [forLoop, bindTg, Row.d, List.length_cons, List.length_nil, if_true, setAll, MP.setI, List.set_cons_succ, List.set_cons_zero, R.of_some, RS.of_ok, evSs, v_asg, e1, e2, RS.seq_nx, v_app, lstOwn, List.getElem?_cons_succ, List.getElem?_cons_zero, e_tup, e_var, evEs, immAt, R.bind_ok, hT, ha, MP.setO, List.map_append, List.map_nil, List.map_cons]
end Gk15

namespace Gk15
open PySem MP
theorem sum_ok {k : Int} (hk : small k = true) {i j : Option Int} (g : i.isSome = j.isSome) (S : Sto) : F_law_sum [ent i, ent j, .int k] S = .ok (ent (sumE k i j)) S := by
  cases i <;> cases j <;> simp at g
  · simp only [evDef, startE, evSs, evEs, evO, evIf, evSrc, s_it1, s_it2, s_it3, e_lit, e_glob, e_var, e_pk, e_tup, e_lst, e_bin, e_star, e_neg, e_cmp, e_isN, e_chain, e_and, e_or, e_not, e_ite, e_idx, e_slice, e_fld, e_call, e_blt, e_isi, e_join, e_comp, e_dcomp, e_dic0, e_cidx, e_cell, e_cget, e_clen, e_ccat, v_asg, v_asgO, v_unp, v_par, v_setI, v_setK, v_aug, v_app, v_exp, v_ret, v_retO, v_retN, v_ite, v_for_, v_pass, v_never, v_frz, v_cset, immAt, pkAt, MP.setI, ownAt, lstOwn, dicOwn, MP.setO, List.map_cons, List.map_nil, List.length_cons, List.length_nil, List.cons_append, List.nil_append, List.getElem?_cons_zero, List.getElem?_cons_succ, R.of_some, R.of_none, R.bind_ok, RS.of_ok, RS.seq_nx, RS.seq_ret, nc0, nc1, nc2, nc3, nc4, nc5, nc6, nc7, nc8, nc9, s_bind, s_map, s_eqI, s_neI, s_eqS, s_neS, atI_0, atI_1, atI_2, atI_3, s_int1, s_int2, s_max, s_mod, s_ix1, s_ix2, s_len1, s_len2, s_list1, s_list2, s_list3, s_tup1, s_tup2, decide_true, decide_false, if_true, if_false, s_ge, s_lt, s_le, s_gt, s_truth, List.set_cons_zero, List.set_cons_succ, s_mul, Bool.or_true, s_add1, s_add3, s_add4, s_sub, s_fdiv, Bool.and_true, Bool.false_eq_true, List.replicate, Nat.reduceAdd, Nat.reduceSub, Int.reduceAdd, Int.reduceSub, Int.reduceMul, fnL, constF, newCell, R.bind_stuck, F_law_sum, b_law_sum, N_law_sum, ent, isNb, Bool.not_false, sumE]
  · simp only [evDef, startE, evSs, evEs, evO, evIf, evSrc, s_it1, s_it2, s_it3, e_lit, e_glob, e_var, e_pk, e_tup, e_lst, e_bin, e_star, e_neg, e_cmp, e_isN, e_chain, e_and, e_or, e_not, e_ite, e_idx, e_slice, e_fld, e_call, e_blt, e_isi, e_join, e_comp, e_dcomp, e_dic0, e_cidx, e_cell, e_cget, e_clen, e_ccat, v_asg, v_asgO, v_unp, v_par, v_setI, v_setK, v_aug, v_app, v_exp, v_ret, v_retO, v_retN, v_ite, v_for_, v_pass, v_never, v_frz, v_cset, immAt, pkAt, MP.setI, ownAt, lstOwn, dicOwn, MP.setO, List.map_cons, List.map_nil, List.length_cons, List.length_nil, List.cons_append, List.nil_append, List.getElem?_cons_zero, List.getElem?_cons_succ, R.of_some, R.of_none, R.bind_ok, RS.of_ok, RS.seq_nx, RS.seq_ret, nc0, nc1, nc2, nc3, nc4, nc5, nc6, nc7, nc8, nc9, s_bind, s_map, s_eqI, s_neI, s_eqS, s_neS, atI_0, atI_1, atI_2, atI_3, s_int1, s_int2, s_max, s_mod, s_ix1, s_ix2, s_len1, s_len2, s_list1, s_list2, s_list3, s_tup1, s_tup2, decide_true, decide_false, if_true, if_false, s_ge, s_lt, s_le, s_gt, s_truth, List.set_cons_zero, List.set_cons_succ, s_mul, Bool.or_true, s_add1, s_add3, s_add4, s_sub, s_fdiv, Bool.and_true, Bool.false_eq_true, List.replicate, Nat.reduceAdd, Nat.reduceSub, Int.reduceAdd, Int.reduceSub, Int.reduceMul, fnL, constF, newCell, R.bind_stuck, F_law_sum, b_law_sum, N_law_sum, ent, isNb, hk, Bool.true_or, sumE]
abbrev eSum : E := .tup [.idx (.var 16) (.lit (.int 0)), .call 5 [.idx (.var 16) (.lit (.int 1)), .idx (.var 17) (.lit (.int 1)), .var 12], .call 5 [.idx (.var 16) (.lit (.int 2)), .idx (.var 17) (.lit (.int 2)), .var 12]]
theorem rd1 (r : Row) : dIdx r.d (.int 1) = some (ent r.x) := atI_1 (D.str r.m) (ent r.x) [ent r.y]
theorem rd2 (r : Row) : dIdx r.d (.int 2) = some (ent r.y) := atI_2 (D.str r.m) (ent r.x) (ent r.y) []
theorem eSum_ok {k : Int} (hk : small k = true) {a b : Row} {ρ : Env'} (h1 : immAt ρ 16 = some a.d) (h2 : immAt ρ 17 = some b.d) (h3 : immAt ρ 12 = some (.int k)) (gx : a.x.isSome = b.x.isSome) (gy : a.y.isSome = b.y.isSome) (S : Sto) : evE fnW ρ eSum S = .ok (sumR k a b).d S := by
  have hT : ∀ x y z : D, mkTup [x, y, z] = some (.tup [x, y, z]) := fun x y z => mkT_of (n := 3) rfl (by decide)
  have e1 := sum_ok hk gx S
  have e2 := sum_ok hk gy S
  simp only [eSum, e_tup, evEs, e_idx, e_var, e_lit, e_call, h1, h2, h3, R.of_some, R.bind_ok, rd0, rd1, rd2, fnL, List.getElem?_cons_succ, List.getElem?_cons_zero, e1, e2, hT]
  rfl
theorem both_loop {k : Int} (hk : small k = true) {s0 s1 s2 s3 s4 s6 s7 s8 s9 s10 s11 s13 s14 s15 : MP.Slot} {r : List MP.Slot} {S : Sto} : ∀ {as bs cs : List Row} {u v : MP.Slot}, Gap as bs → cs.length + as.length ≤ 100 → ∃ u' v', forS fnW (.tup [16, 17]) [.app 5 eSum] (zipD (as.map Row.d) (bs.map Row.d)) (s0 :: s1 :: s2 :: s3 :: s4 :: .own (.lst (cs.map Row.d)) :: s6 :: s7 :: s8 :: s9 :: s10 :: s11 :: .imm (.int k) :: s13 :: s14 :: s15 :: u :: v :: r) S =
    .nx (s0 :: s1 :: s2 :: s3 :: s4 :: .own (.lst ((cs ++ List.zipWith (sumR k) as bs).map Row.d)) :: s6 :: s7 :: s8 :: s9 :: s10 :: s11 :: .imm (.int k) :: s13 :: s14 :: s15 :: u' :: v' :: r) S
  | [], _, cs, u, v, .nil, _ => ⟨u, v, by simp only [List.map_nil, List.zipWith, List.append_nil]; rfl⟩
  | a :: as, b :: bs, cs, u, v, .cons m gx gy g, hl => by
    simp only [List.length_cons] at hl
    have ha : ∀ x, dApp (cs.map Row.d) x = some (.lst (cs.map Row.d ++ [x])) := fun x => if_pos (by rw [BIGv, List.length_map]; omega)
    obtain ⟨u', v', ev⟩ := both_loop hk (s0 := s0) (s1 := s1) (s2 := s2) (s3 := s3) (s4 := s4) (s6 := s6) (s7 := s7) (s8 := s8) (s9 := s9) (s10 := s10) (s11 := s11) (s13 := s13) (s14 := s14) (s15 := s15) (r := r) (S := S) (as := as) (bs := bs) (cs := cs ++ [sumR k a b]) (u := .imm a.d) (v := .imm b.d) g (by rw [List.length_append]; simp; omega)
    refine ⟨u', v', ?_⟩
    rw [List.append_assoc, List.singleton_append] at ev
    rw [List.zipWith_cons_cons, ← ev]
    refine forS_step rfl ?_
    simp only [evSs, v_app, lstOwn, List.getElem?_cons_succ, List.getElem?_cons_zero, R.of_some, RS.of_ok, MP.setI, setAll, List.set_cons_succ, List.set_cons_zero, MP.setO]
    rw [eSum_ok hk (a := a) (b := b) rfl rfl rfl gx gy S]
    simp only [RS.of_ok, ha, R.of_some, RS.seq_nx, List.map_append, List.map_cons, List.map_nil]
theorem due_loop {k : Int} (hk : small k = true) {s0 s1 s2 s3 s4 s5 s6 s7 s8 s9 s10 s11 s13 s14 s15 s18 s19 : MP.Slot} {r : List MP.Slot} {S : Sto} : ∀ {as bs cs : List Row} {u v : MP.Slot}, Gap as bs → cs.length + as.length ≤ 100 → ∃ u' v', forS fnW (.tup [16, 17]) [.app 20 eSum] (zipD (as.map Row.d) (bs.map Row.d)) (s0 :: s1 :: s2 :: s3 :: s4 :: s5 :: s6 :: s7 :: s8 :: s9 :: s10 :: s11 :: .imm (.int k) :: s13 :: s14 :: s15 :: u :: v :: s18 :: s19 :: .own (.lst (cs.map Row.d)) :: r) S =
    .nx (s0 :: s1 :: s2 :: s3 :: s4 :: s5 :: s6 :: s7 :: s8 :: s9 :: s10 :: s11 :: .imm (.int k) :: s13 :: s14 :: s15 :: u' :: v' :: s18 :: s19 :: .own (.lst ((cs ++ List.zipWith (sumR k) as bs).map Row.d)) :: r) S
  | [], _, cs, u, v, .nil, _ => ⟨u, v, by simp only [List.map_nil, List.zipWith, List.append_nil]; rfl⟩
  | a :: as, b :: bs, cs, u, v, .cons m gx gy g, hl => by
    simp only [List.length_cons] at hl
    have ha : ∀ x, dApp (cs.map Row.d) x = some (.lst (cs.map Row.d ++ [x])) := fun x => if_pos (by rw [BIGv, List.length_map]; omega)
    obtain ⟨u', v', ev⟩ := due_loop hk (s0 := s0) (s1 := s1) (s2 := s2) (s3 := s3) (s4 := s4) (s5 := s5) (s6 := s6) (s7 := s7) (s8 := s8) (s9 := s9) (s10 := s10) (s11 := s11) (s13 := s13) (s14 := s14) (s15 := s15) (s18 := s18) (s19 := s19) (r := r) (S := S) (as := as) (bs := bs) (cs := cs ++ [sumR k a b]) (u := .imm a.d) (v := .imm b.d) g (by rw [List.length_append]; simp; omega)
    refine ⟨u', v', ?_⟩
    rw [List.append_assoc, List.singleton_append] at ev
    rw [List.zipWith_cons_cons, ← ev]
    refine forS_step rfl ?_
    simp only [evSs, v_app, lstOwn, List.getElem?_cons_succ, List.getElem?_cons_zero, R.of_some, RS.of_ok, MP.setI, setAll, List.set_cons_succ, List.set_cons_zero, MP.setO]
    rw [eSum_ok hk (a := a) (b := b) rfl rfl rfl gx gy S]
    simp only [RS.of_ok, ha, R.of_some, RS.seq_nx, List.map_append, List.map_cons, List.map_nil]
end Gk15

namespace Gk15
open PySem MP
theorem rows_of : ∀ {rs : List D}, (∀ r ∈ rs, IsRow r) → ∃ rows : List Row, rs = rows.map Row.d ∧ (∀ r ∈ rows, IsMk r.m) ∧ rows.length = rs.length
  | [], _ => ⟨[], rfl, by simp, rfl⟩
  | d :: ds, h => by
    obtain ⟨rows, e, a, b⟩ := rows_of fun r hr => h r (List.mem_cons_of_mem d hr)
    have ie : ∀ x, IsE x → ∃ o, x = ent o := fun x hx => by
      rcases hx with rfl | ⟨i, rfl⟩
      · exact ⟨none, rfl⟩
      · exact ⟨some i, rfl⟩
    cases h d List.mem_cons_self with
    | @mk m x y h1 h2 h3 =>
      obtain ⟨o, rfl⟩ := ie x h2
      obtain ⟨p, rfl⟩ := ie y h3
      refine ⟨⟨m, o, p⟩ :: rows, by rw [e]; rfl, fun r hr => ?_, by simp [b]⟩
      rcases List.mem_cons.mp hr with rfl | hr
      · exact h1
      · exact a r hr
theorem row_plain (r : Row) : r.d.plain 63 = true := by
  unfold Row.d
  cases r.x <;> cases r.y <;> simp [D.plain, D.plains, ent]
theorem row_eq (r : Row) : r.d.eqv r.d = true := by
  unfold Row.d
  cases r.x <;> cases r.y <;> simp [D.eqv, D.eqvs, ent]
theorem ne_same (rows : List Row) : dCmp .ne (.lst (rows.map Row.d)) (.lst (rows.map Row.d)) = some false := by
  have p : D.plains 63 (rows.map Row.d) = true := plains_of fun d hd => by
    obtain ⟨r, _, rfl⟩ := List.mem_map.mp hd
    exact row_plain r
  have e : D.eqvs (rows.map Row.d) (rows.map Row.d) = true := by
    clear p
    induction rows with
    | nil => rfl
    | cons r rs ih => simp only [List.map_cons, D.eqvs, row_eq, ih, Bool.and_self]
  unfold dCmp
  simp only [D.plain, p, Bool.and_self, if_true, D.eqv, e, Bool.not_true]
theorem gap_mk {as bs : List Row} (h : Gap as bs) (ha : ∀ r ∈ as, IsMk r.m) : ∀ r ∈ bs, IsMk r.m := by
  induction h with
  | nil => simp
  | @cons a b as bs m x y t ih =>
    intro r hr
    rcases List.mem_cons.mp hr with rfl | hr
    · rw [m]; exact ha _ List.mem_cons_self
    · exact ih (fun q hq => ha q (List.mem_cons_of_mem _ hq)) r hr
theorem zip_mk {k : Int} {as bs : List Row} (h : Gap as bs) (ha : ∀ r ∈ as, IsMk r.m) : ∀ r ∈ List.zipWith (sumR k) as bs, IsMk r.m := by
  induction h with
  | nil => simp
  | @cons a b as bs m x y t ih =>
    intro r hr
    rw [List.zipWith_cons_cons] at hr
    rcases List.mem_cons.mp hr with rfl | hr
    · exact (show IsMk (sumR k a b).m from ha a List.mem_cons_self)
    · exact ih (fun q hq => ha q (List.mem_cons_of_mem _ hq)) r hr
theorem fold_len {hd : Str} : ∀ {xs : List D} {fs : List (List Row → List Row)} {rs : List Row}, Ps hd xs fs → (fs.foldl (fun r f => f r) rs).length = rs.length
  | _, _, _, .nil => rfl
  | _, _, rs, .cons h t => by
    rw [List.foldl_cons, fold_len t]
    cases h <;> simp
theorem law_true (ns : List Int) (h : ns.length ≤ 63) : ∃ S, F_law [.scr ns] [] = .ok (.bl true) S := by
  have hL0 := mkL_of (xs := []) (n := 0) rfl (by decide)
  obtain ⟨_, S0, e0, rfl, hs0⟩ := mix_ok (seed := 15) h
  have run : Rs (F_law [.scr ns] []) fun d _ => d = .bl true := by
    refine def_run ?_
    have er : dRng [.int 5] = some (rngItems 0 5) := rfl
    simp only [evDef, startE, evSs, evEs, evO, evIf, evSrc, s_it1, s_it2, s_it3, e_lit, e_glob, e_var, e_pk, e_tup, e_lst, e_bin, e_star, e_neg, e_cmp, e_isN, e_chain, e_and, e_or, e_not, e_ite, e_idx, e_slice, e_fld, e_call, e_blt, e_isi, e_join, e_comp, e_dcomp, e_dic0, e_cidx, e_cell, e_cget, e_clen, e_ccat, v_asg, v_asgO, v_unp, v_par, v_setI, v_setK, v_aug, v_app, v_exp, v_ret, v_retO, v_retN, v_ite, v_for_, v_pass, v_never, v_frz, v_cset, immAt, pkAt, MP.setI, ownAt, lstOwn, dicOwn, MP.setO, List.map_cons, List.map_nil, List.length_cons, List.length_nil, List.cons_append, List.nil_append, List.getElem?_cons_zero, List.getElem?_cons_succ, R.of_some, R.of_none, R.bind_ok, RS.of_ok, RS.seq_nx, RS.seq_ret, nc0, nc1, nc2, nc3, nc4, nc5, nc6, nc7, nc8, nc9, s_bind, s_map, s_eqI, s_neI, s_eqS, s_neS, atI_0, atI_1, atI_2, atI_3, s_int1, s_int2, s_max, s_mod, s_ix1, s_ix2, s_len1, s_len2, s_list1, s_list2, s_list3, s_tup1, s_tup2, decide_true, decide_false, if_true, if_false, s_ge, s_lt, s_le, s_gt, s_truth, List.set_cons_zero, List.set_cons_succ, s_mul, Bool.or_true, s_add1, s_add3, s_add4, s_sub, s_fdiv, Bool.and_true, Bool.false_eq_true, List.replicate, Nat.reduceAdd, Nat.reduceSub, Int.reduceAdd, Int.reduceSub, Int.reduceMul, fnL, constF, newCell, R.bind_stuck, b_law, N_law, e0, er]
    refine Rt.seq (forS_run (fun ds ρ s => ∃ l : List MP.Slot, l.length = 19 ∧ ρ = .imm (.scr ns) :: .imm (.ref 1) :: l ∧ HS s) ?_ ⟨_, rfl, rfl, hs0⟩) ?_
    · rintro d ds ρ s ⟨l, hl, rfl, hs⟩
      match l, hl with
      | [s2, s3, s4, s5, s6, s7, s8, s9, s10, s11, s12, s13, s14, s15, s16, s17, s18, s19, s20], _ =>
      refine ⟨_, rfl, ?_⟩
      obtain ⟨_, S1, e1, ⟨hd, xs, cs, rfl, q1, q2, q3, q4⟩, h1⟩ := parts_ok hs
      obtain ⟨_, S2, e2, ⟨rs, rfl, q5, q6⟩, h2⟩ := table_ok (n := 8) h1 (by decide) (by decide)
      obtain ⟨rows, rfl, q7, q8⟩ := rows_of q5
      obtain ⟨_, S3, e3, r, rfl, a3, b3, h3⟩ := next_ok (cap := 9) h2 (by decide) (by decide)
      have hk : small (r - 4) = true := by unfold small; simp; omega
      obtain ⟨ys, gs, z', p1, p2, ev1⟩ := plain_loop (hd := hd) (a := .imm (.scr ns)) (b := .imm (.ref 1)) (c := .imm d) (r := [s5, .imm (.str hd), .imm (.lst xs), .imm (.str cs), s9, s10, s11, s12, s13, s14, s15, s16, s17, s18, s19, s20]) (S := S1) (ds := xs) (xs := []) (z := s4) q2.all (by simpa using q3) .nil
      have e4 := new_prg q1 p1.steps p2 q4 S1
      obtain ⟨os, t', u', v', S4, g1, h4, ev2⟩ := other_loop (s0 := .imm (.scr ns)) (s2 := .imm d) (s3 := .imm (.lst ys)) (s4 := z') (s5 := s5) (s6 := .imm (.str hd)) (s7 := .imm (.lst xs)) (s8 := .imm (.str cs)) (s9 := .imm (.prg hd ys cs)) (s10 := .imm (.lst (rows.map Row.d))) (s12 := .imm (.int (r - 4))) (r := [s16, s17, s18, s19, s20]) (as := rows) (bs := []) (t := s13) (u := s14) (v := s15) h3 (by simp; omega)
      obtain ⟨u2, v2, ev3⟩ := both_loop hk (s0 := .imm (.scr ns)) (s1 := .imm (.ref 1)) (s2 := .imm d) (s3 := .imm (.lst ys)) (s4 := z') (s6 := .imm (.str hd)) (s7 := .imm (.lst xs)) (s8 := .imm (.str cs)) (s9 := .imm (.prg hd ys cs)) (s10 := .imm (.lst (rows.map Row.d))) (s11 := .imm (.lst (os.map Row.d))) (s13 := t') (s14 := u') (s15 := v') (r := [s18, s19, s20]) (S := S4) (as := rows) (bs := os) (cs := []) (u := s16) (v := s17) g1 (by simp; omega)
      have om := gap_mk g1 q7
      have d1 := done_ok (cs := cs) q1 p1 q7 S4
      have d2 := done_ok (cs := cs) q1 p1 om S4
      have d3 := done_ok (cs := cs) q1 p1 (zip_mk (k := r - 4) g1 q7) S4
      have tr := (all_lin (k := r - 4) p1 g1.tri).gap
      obtain ⟨u3, v3, ev4⟩ := due_loop hk (s0 := .imm (.scr ns)) (s1 := .imm (.ref 1)) (s2 := .imm d) (s3 := .imm (.lst ys)) (s4 := z') (s5 := .own (.lst ((List.zipWith (sumR (r - 4)) rows os).map Row.d))) (s6 := .imm (.str hd)) (s7 := .imm (.lst xs)) (s8 := .imm (.str cs)) (s9 := .imm (.prg hd ys cs)) (s10 := .imm (.lst (rows.map Row.d))) (s11 := .imm (.lst (os.map Row.d))) (s13 := t') (s14 := u') (s15 := v') (s18 := .imm (.lst ((gs.foldl (fun r f => f r) rows).map Row.d))) (s19 := .imm (.lst ((gs.foldl (fun r f => f r) os).map Row.d))) (r := []) (S := S4) (as := gs.foldl (fun r f => f r) rows) (bs := gs.foldl (fun r f => f r) os) (cs := []) (u := u2) (v := v2) tr.1 (by rw [fold_len p1]; simp; omega)
      have w4 := tr.2
      replace ev2 := ev2
      rw [List.nil_append, ← w4] at ev4
      rw [List.nil_append] at ev2 ev3
      rw [List.map_nil] at ev2 ev3 ev4
      simp only [evDef, startE, evSs, evEs, evO, evIf, evSrc, s_it1, s_it2, s_it3, e_lit, e_glob, e_var, e_pk, e_tup, e_lst, e_bin, e_star, e_neg, e_cmp, e_isN, e_chain, e_and, e_or, e_not, e_ite, e_idx, e_slice, e_fld, e_call, e_blt, e_isi, e_join, e_comp, e_dcomp, e_dic0, e_cidx, e_cell, e_cget, e_clen, e_ccat, v_asg, v_asgO, v_unp, v_par, v_setI, v_setK, v_aug, v_app, v_exp, v_ret, v_retO, v_retN, v_ite, v_for_, v_pass, v_never, v_frz, v_cset, immAt, pkAt, MP.setI, ownAt, lstOwn, dicOwn, MP.setO, List.map_cons, List.map_nil, List.length_cons, List.length_nil, List.cons_append, List.nil_append, List.getElem?_cons_zero, List.getElem?_cons_succ, R.of_some, R.of_none, R.bind_ok, RS.of_ok, RS.seq_nx, RS.seq_ret, nc0, nc1, nc2, nc3, nc4, nc5, nc6, nc7, nc8, nc9, s_bind, s_map, s_eqI, s_neI, s_eqS, s_neS, atI_0, atI_1, atI_2, atI_3, s_int1, s_int2, s_max, s_mod, s_ix1, s_ix2, s_len1, s_len2, s_list1, s_list2, s_list3, s_tup1, s_tup2, decide_true, decide_false, if_true, if_false, s_ge, s_lt, s_le, s_gt, s_truth, List.set_cons_zero, List.set_cons_succ, s_mul, Bool.or_true, s_add1, s_add3, s_add4, s_sub, s_fdiv, Bool.and_true, Bool.false_eq_true, List.replicate, Nat.reduceAdd, Nat.reduceSub, Int.reduceAdd, Int.reduceSub, Int.reduceMul, fnL, constF, newCell, R.bind_stuck, e1, bindTg, setAll, hL0, isFr, ev1, e4, e2, MP.setPar, Bool.false_and, Bool.not_true, Bool.true_and, e3, ev2, lstItems, ev3, d1, d2, ev4, d3, ne_same]
      exact Rt.nx ⟨_, rfl, rfl, h4⟩
    · rintro ρ s ⟨l, hl, rfl, hs⟩
      exact Rt.ret rfl
  obtain ⟨d, S', e, rfl⟩ := run
  exact ⟨S', e⟩
end Gk15

open PySem PySem.W PySem.Calls PyProof.Rows
set_option maxHeartbeats 0 in
theorem PySem.Challenge.cw_keptback_k15_whole_tables_added_holds : PySem.Challenge.rw_keptback_k15_whole_tables_added.Holds := by
  w_on; o_law
  refine HandSHeadRun.head_any (r := OpenLaw.row PySem.Challenge.rw_keptback_k15_whole_tables_added) (q := view (OpenLaw.row PySem.Challenge.rw_keptback_k15_whole_tables_added).prog [46]) (H := Gk15.hk) (ob := Gk15.ob) (M := 6000) (loose := Gk15.loose) (d := HandSHeadRun.topDef (OpenLaw.row PySem.Challenge.rw_keptback_k15_whole_tables_added).prog 46) (kwd := []) Gk15.ob_eq
    (by kernel_rfl) (fun s => by kernel_rfl) Gk15.run (by kernel_rfl) (by kernel_rfl) (by kernel_rfl) (by rfl) (by first | assumption | decide +kernel) (by decide +kernel) ⟨rfl, rfl, rfl, rfl, rfl, by decide +kernel⟩ ?hw ?hc
  case hw => w_witness2
  case hc =>
    refine MP.walkW (l := PySem.Challenge.rw_keptback_k15_whole_tables_added) (n := 63) (k := 7) (x := "_law_script") rfl (by decide) (by kernel_rfl) ⟨rfl, by decide, by decide⟩ ?F
    intro w mg fa h Y G hmg0
    obtain ⟨K, KX, c⟩ := Y
    have hmg : mg ("law" : PySem.Str) = some (.ref fa) := by
      have e : (HandSHeadRun.topDef (OpenLaw.row PySem.Challenge.rw_keptback_k15_whole_tables_added).prog 46).name = ("law" : PySem.Str) := by kernel_rfl
      rw [← e]
      exact hmg0
    have ct : He.SaysD Gk15.fa Gk15.fn K := congrArg (fun z : He.AlT => z.1) c.t
    have fx : ∀ base : PySem.Heap, MP.Fx Gk15.fa Gk15.fn Gk15.ex ⟨⟨K, He.ga K "Program", fun _ => 0, fun _ => 0⟩, (PySem.Challenge.rw_keptback_k15_whole_tables_added).prog, w, mg, base⟩ := fun base =>
      ⟨ct, c.more, fun x h => He.glo_ok KX G h, fun x h => He.free_ok KX G h, fun x i h => He.int_ok KX G h, fun x z h => He.str_ok KX G h, rfl⟩
    obtain ⟨fd, F⟩ := ct.def_ 25 (d := Gk15.d_law) rfl
    have e := hmg.symm.trans (He.glo_ok KX G (ct.fact 40 (f := .glo "law") rfl))
    cases e
    have b := L2.FunD.bindsA (ps := ["_law_script"]) F fun _ _ _ _ _ _ us hl => match us, hl with | [_], _ => rfl
    refine ⟨K, fd, MP.spD ⟨K, He.ga K "Program", fun _ => 0, fun _ => 0⟩ 1 true Gk15.F_law, KX, fun s v => b s [v] rfl, fun H a ns hl hO hS => ?_, fun base _ _ => Gk15.fn_law (fx base) F⟩
    obtain ⟨S2, hS2⟩ := Gk15.law_true ns hl
    exact MP.law_sp (n := 63) (by decide) hl hS hO hS2
