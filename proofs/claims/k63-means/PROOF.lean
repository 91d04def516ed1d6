import PyProof.Rows.All
import Wide.All
import OpenK.AllK
import Wide.FinOn
import PySem.Str
import HandS.ForMost
import HandS.Flow
import HandS.ExcCtx
import HandS.Nested
import HandS.CallSlots
import HandS.ExcOwn
import HandS.WordsExc
import HandS.Walk
import HandS.TupAny
import HandS.TupMul
import HandS.Deep
import HandS.Wide
import KE.DataCmp
import KE.GoesMore
import KE.GoesEnum
import HandS.IsInst
import HandS.WordsDict
import HandS.Dict
import HandS.Conv
import HandS.Text
import HandS.Style
import HandS.Property
import HandS.Lambda
import KE.KLam
import HandS.CallLocal
import HandS.Codes
import HandS.Defaults
import HandS.Zip
import HandS.More
import HandS.HeadHook4
import HandS.Gcd
import HandS.SetFor
import HandS.Head0
import HandS.Head1
import HandS.Head2
import HandS.Head3
import HandS.HeadEnd
import HandS.HeadWalk
import HandS.NestedK
import PySem.Challenge.RW_doveposts_k63_whole_chances_and_mean_num
set_option Elab.async false
set_option linter.all false
set_option maxRecDepth 100000
/-! DL, part A: Python values as data, results, the meaning of each construct. Plain Lean. -/
namespace DL
open PySem
/-- a value: texts by their codes; fn: a def or class of the module by its name; obj: a thing of the store -/
inductive D where
  | non | bl (b : Bool) | int (i : Int) | str (x : List Nat)
  | tup (ds : List D) | lst (ds : List D) | dic (kvs : List (D × D))
  | obj (l : Nat) | fn (x : Str)
  /-- the law's own list of numbers -/
  | scr (ns : List Int)
/-- a thing of the store -/
inductive Cell where
  | lst (ds : List D) | dic (kvs : List (D × D)) | ins (c : Str) (fs : List (Str × D))
abbrev Sto := List Cell
structure Exn where
  cls : Str
  fs : List (Str × D)
inductive Res (α : Type) where
  | ok (a : α) (S : Sto) | exc (e : Exn) (S : Sto) | bad
/-- a slot of a frame: empty, a value that nobody changes, a list (dict) of the frame's own, a function made in place, a caught error -/
inductive Slot where
  | un | fz (d : D) | ow (d : D) | cl (G : List D → Sto → Res D) | ex (e : Exn)
abbrev Env := List Slot
abbrev Ev := Env → Sto → Res D
abbrev Tv := Env → Sto → Res Bool
inductive Fl where
  | nx (ρ : Env) | rt (d : D) | bk (ρ : Env) | ct (ρ : Env)
abbrev Sv := Env → Sto → Res Fl
namespace Res
variable {α β γ : Type}
def bind (r : Res α) (f : α → Sto → Res β) : Res β := match r with
  | .ok a S => f a S
  | .exc e S => .exc e S
  | .bad => .bad
@[simp] theorem bind_ok (a : α) (S : Sto) (f : α → Sto → Res β) : (Res.ok a S).bind f = f a S := rfl
@[simp] theorem bind_exc (e : Exn) (S : Sto) (f : α → Sto → Res β) : (Res.exc e S : Res α).bind f = .exc e S := rfl
@[simp] theorem bind_bad (f : α → Sto → Res β) : (Res.bad : Res α).bind f = .bad := rfl
theorem bind_assoc (r : Res α) (f : α → Sto → Res β) (g : β → Sto → Res γ) : (r.bind f).bind g = r.bind fun a S => (f a S).bind g := by cases r <;> rfl
end Res
def opt {α : Type} (o : Option α) (S : Sto) : Res α := match o with
  | some a => .ok a S
  | none => .bad
@[simp] theorem opt_some {α : Type} (a : α) (S : Sto) : opt (some a) S = .ok a S := rfl
@[simp] theorem opt_none {α : Type} (S : Sto) : opt (none : Option α) S = .bad := rfl
/-! ### expressions -/
def kc (d : D) : Ev := fun _ S => .ok d S
def slotR : Option Slot → Sto → Res D
  | some (.fz d), S => .ok d S
  | _, _ => .bad
def slotP : Option Slot → Sto → Res D
  | some (.fz d), S => .ok d S
  | some (.ow d), S => .ok d S
  | _, _ => .bad
/-- a name's value; a name that is read in place, its list maybe the frame's own -/
def vr (i : Nat) : Ev := fun ρ S => slotR ρ[i]? S
def pk (i : Nat) : Ev := fun ρ S => slotP ρ[i]? S
def e1 (g : Sto → D → Option D) (a : Ev) : Ev := fun ρ S => (a ρ S).bind fun x S1 => opt (g S1 x) S1
def e2 (g : Sto → D → D → Option D) (a b : Ev) : Ev := fun ρ S => (a ρ S).bind fun x S1 => (b ρ S1).bind fun y S2 => opt (g S2 x y) S2
abbrev Evs := Env → Sto → Res (List D)
def eNil : Evs := fun _ S => .ok [] S
def eCons (a : Ev) (r : Evs) : Evs := fun ρ S => (a ρ S).bind fun x S1 => (r ρ S1).bind fun xs S2 => .ok (x :: xs) S2
/-- what comes of a list of values -/
def eN (g : Sto → List D → Option D) (as : Evs) : Ev := fun ρ S => (as ρ S).bind fun xs S1 => opt (g S1 xs) S1
def eTup (as : Evs) : Ev := fun ρ S => (as ρ S).bind fun xs S1 => .ok (.tup xs) S1
def eLst (as : Evs) : Ev := fun ρ S => (as ρ S).bind fun xs S1 => .ok (.lst xs) S1
def eIf (t : Tv) (a b : Ev) : Ev := fun ρ S => (t ρ S).bind fun c S1 => if c = true then a ρ S1 else b ρ S1
/-! ### tests -/
/-- the items of what may be walked, asked for its length, its items -/
def seqS (S : Sto) : D → Option (List D)
  | .tup ds => some ds
  | .lst ds => some ds
  | .obj l => (match S[l]? with
    | some (.lst ds) => some ds
    | _ => none)
  | _ => none
def truS (S : Sto) : D → Option Bool
  | .non => some false
  | .bl b => some b
  | .int i => some (i != 0)
  | .str x => some (!x.isEmpty)
  | .tup ds => some (!ds.isEmpty)
  | .lst ds => some (!ds.isEmpty)
  | .dic kvs => some (!kvs.isEmpty)
  | _ => none
def bV : D → Option Bool
  | .bl b => some b
  | _ => none
/-- an expression that gives True or False; one of any kind, by truth -/
def tB (a : Ev) : Tv := fun ρ S => (a ρ S).bind fun x S1 => opt (bV x) S1
def tT (a : Ev) : Tv := fun ρ S => (a ρ S).bind fun x S1 => opt (truS S1 x) S1
def tAnd (t u : Tv) : Tv := fun ρ S => (t ρ S).bind fun c S1 => if c = true then u ρ S1 else .ok false S1
def tOr (t u : Tv) : Tv := fun ρ S => (t ρ S).bind fun c S1 => if c = true then .ok true S1 else u ρ S1
def tNot (t : Tv) : Tv := fun ρ S => (t ρ S).bind fun c S1 => .ok (!c) S1
/-- x and y, x or y, not x as values (x a bool) -/
def eAnd (a b : Ev) : Ev := fun ρ S => (a ρ S).bind fun x S1 => (opt (bV x) S1).bind fun c S1 => if c = true then b ρ S1 else .ok (.bl false) S1
def eOr (a b : Ev) : Ev := fun ρ S => (a ρ S).bind fun x S1 => (opt (bV x) S1).bind fun c S1 => if c = true then .ok (.bl true) S1 else b ρ S1
def notS (_ : Sto) : D → Option D
  | .bl b => some (.bl (!b))
  | _ => none
/-- x or y, x and y by truth -/
def eOrT (a b : Ev) : Ev := fun ρ S => (a ρ S).bind fun x S1 => (opt (truS S1 x) S1).bind fun c S1 => if c = true then .ok x S1 else b ρ S1
def eAndT (a b : Ev) : Ev := fun ρ S => (a ρ S).bind fun x S1 => (opt (truS S1 x) S1).bind fun c S1 => if c = true then b ρ S1 else .ok x S1
/-- a op b op' c -/
def eChn (o o' : Sto → D → D → Option D) (a b c : Ev) : Ev := fun ρ S => (a ρ S).bind fun x S1 => (b ρ S1).bind fun y S2 => (opt ((o S2 x y).bind bV) S2).bind fun k S2 =>
  if k = true then (c ρ S2).bind fun z S3 => opt (o' S3 y z) S3 else .ok (.bl false) S2
/-! ### what operators give -/
abbrev zLine : Nat := 16777216
/-- a value without dicts, things of the store, defs; at most n deep -/
def py : Nat → D → Bool
  | _, .non => true
  | _, .bl _ => true
  | _, .int _ => true
  | _, .str _ => true
  | n + 1, .tup ds => ds.all (py n)
  | n + 1, .lst ds => ds.all (py n)
  | _, _ => false
mutual
def eqv : D → D → Bool
  | .non, .non => true
  | .bl a, .bl b => a == b
  | .bl a, .int j => (if a then 1 else 0) == j
  | .int i, .bl b => i == (if b then 1 else 0)
  | .int i, .int j => i == j
  | .str x, .str y => x == y
  | .lst xs, .lst ys => eqvs xs ys
  | .tup xs, .tup ys => eqvs xs ys
  | _, _ => false
def eqvs : List D → List D → Bool
  | [], [] => true
  | x :: xs, y :: ys => eqv x y && eqvs xs ys
  | _, _ => false
end
def eqS (_ : Sto) (x y : D) : Option D := if (py 40 x && py 40 y) = true then some (.bl (eqv x y)) else none
def neS (_ : Sto) (x y : D) : Option D := if (py 40 x && py 40 y) = true then some (.bl (!eqv x y)) else none
/-- of whole numbers alone -/
def iI (g : Int → Int → D) (_ : Sto) : D → D → Option D
  | .int i, .int j => some (g i j)
  | _, _ => none
def mulOk (i j : Int) : Bool := (decide (-(2 ^ 64) < i) && decide (i < 2 ^ 64)) || (decide (-(2 ^ 64) < j) && decide (j < 2 ^ 64)) || decide (i.natAbs.log2 + j.natAbs.log2 < 1000000)
def addS (_ : Sto) : D → D → Option D
  | .int i, .int j => some (.int (i + j))
  | .str x, .str y => if x.length + y.length ≤ zLine then some (.str (x ++ y)) else none
  | .tup x, .tup y => if x.length + y.length ≤ zLine then some (.tup (x ++ y)) else none
  | .lst x, .lst y => if x.length + y.length ≤ zLine then some (.lst (x ++ y)) else none
  | _, _ => none
def subS : Sto → D → D → Option D := iI fun i j => .int (i - j)
def rep {α : Type} (x : List α) (n : Nat) : List α := (List.replicate n x).flatten
def mulS (_ : Sto) : D → D → Option D
  | .int i, .int j => if mulOk i j = true then some (.int (i * j)) else none
  | .str x, .int j => if 0 ≤ j ∧ j ≤ 1000 ∧ x.length * j.toNat ≤ zLine then some (.str (rep x j.toNat)) else none
  | .tup x, .int j => if 2 ≤ j ∧ j ≤ 1000 ∧ x.length ≤ 1000 ∧ x.isEmpty = false then some (.tup (rep x j.toNat)) else none
  | .lst x, .int j => if 0 ≤ j ∧ j ≤ 1000 ∧ x.length * j.toNat ≤ zLine then some (.lst (rep x j.toNat)) else none
  | _, _ => none
def fdivS (_ : Sto) : D → D → Option D
  | .int i, .int j => if 0 < j ∧ j.natAbs.log2 < 9000 then some (.int (i / j)) else none
  | _, _ => none
def modS (_ : Sto) : D → D → Option D
  | .int i, .int j => if 0 < j then some (.int (i % j)) else none
  | _, _ => none
def powS (_ : Sto) : D → D → Option D
  | .int i, .int j => if 0 ≤ j ∧ j ≤ 1000000 ∧ i.natAbs < 2 ^ 64 then some (.int (i ^ j.toNat)) else none
  | _, _ => none
def negS (_ : Sto) : D → Option D
  | .int i => some (.int (-i))
  | _ => none
mutual
/-- the order of alike things -/
def alike : D → D → Bool
  | .non, .non => true
  | .bl _, .bl _ => true
  | .int _, .int _ => true
  | .str _, .str _ => true
  | .tup xs, .tup ys => alikes xs ys
  | .lst xs, .lst ys => alikes xs ys
  | _, _ => false
def alikes : List D → List D → Bool
  | x :: xs, y :: ys => alike x y && alikes xs ys
  | _, _ => true
end
mutual
def ltD : D → D → Bool
  | .bl a, .bl b => !a && b
  | .int i, .int j => decide (i < j)
  | .str x, .str y => decide (x < y)
  | .tup xs, .tup ys => ltDs xs ys
  | .lst xs, .lst ys => ltDs xs ys
  | _, _ => false
def ltDs : List D → List D → Bool
  | x :: xs, y :: ys => if eqv x y = true then ltDs xs ys else ltD x y
  | [], _ :: _ => true
  | _, [] => false
end
def isN : D → Bool
  | .non => true
  | _ => false
def ordOk (x y : D) : Bool := alike x y && !isN x && py 40 x && py 40 y
def ltS (_ : Sto) (x y : D) : Option D := if ordOk x y = true then some (.bl (ltD x y)) else none
def gtS (_ : Sto) (x y : D) : Option D := if ordOk x y = true then some (.bl (ltD y x)) else none
def leS (_ : Sto) (x y : D) : Option D := if ordOk x y = true then some (.bl (!ltD y x)) else none
def geS (_ : Sto) (x y : D) : Option D := if ordOk x y = true then some (.bl (!ltD x y)) else none
def isNonS (_ : Sto) (x : D) : Option D := some (.bl (match x with | .non => true | _ => false))
def notNonS (_ : Sto) (x : D) : Option D := some (.bl (match x with | .non => false | _ => true))
/-- x is True (False) -/
def isBlS (b : Bool) (_ : Sto) (x : D) : Option D := some (.bl (match x with | .bl c => c == b | _ => false))
def notBlS (b : Bool) (_ : Sto) (x : D) : Option D := some (.bl (match x with | .bl c => !(c == b) | _ => true))
def dKey : D → Bool
  | .int _ => true
  | .str _ => true
  | _ => false
def dGet (kvs : List (D × D)) (k : D) : Option D := (kvs.find? fun p => eqv p.1 k).map (·.2)
def inB (S : Sto) (x : D) : D → Option Bool
  | .str y => (match x with
    | .str [c] => some (y.contains c)
    | _ => none)
  | .dic kvs => if dKey x = true then some (dGet kvs x).isSome else none
  | y => (match seqS S y with
    | some ds => if (py 40 x && ds.all (py 40)) = true then some (ds.any fun d => eqv d x) else none
    | none => none)
def inS (S : Sto) (x y : D) : Option D := (inB S x y).map D.bl
def notInS (S : Sto) (x y : D) : Option D := (inB S x y).map fun b => D.bl (!b)
/-! ### places, slices -/
def ixNat (n : Nat) (i : Int) : Option Nat := if 0 ≤ i then (if i < n then some i.toNat else none) else if -(n : Int) ≤ i then some (i + n).toNat else none
def atL {α : Type} (xs : List α) (i : Int) : Option α := (ixNat xs.length i).bind fun j => xs[j]?
def ixS (S : Sto) (x y : D) : Option D := match y with
  | .int i => (match x with
    | .str z => (atL z i).map fun c => .str [c]
    | .dic kvs => dGet kvs y
    | .scr ns => atL (ns.map D.int) i
    | _ => (seqS S x).bind fun ds => atL ds i)
  | .str _ => (match x with
    | .dic kvs => dGet kvs y
    | _ => none)
  | _ => none
def sIx (n d : Nat) : Option Int → Nat
  | none => d
  | some v => if v < 0 then (v + (n : Int)).toNat else min v.toNat n
def cut {α : Type} (xs : List α) (lo hi : Option Int) : List α := (xs.drop (sIx xs.length 0 lo)).take (sIx xs.length xs.length hi - sIx xs.length 0 lo)
def cutS (lo hi : Option Int) (_ : Sto) : D → Option D
  | .str z => some (.str (cut z lo hi))
  | .tup ds => some (.tup (cut ds lo hi))
  | .lst ds => some (.lst (cut ds lo hi))
  | .scr ns => some (.lst (cut (ns.map D.int) lo hi))
  | _ => none
def iV : D → Option Int
  | .int i => some i
  | _ => none
/-- x[lo:hi] -/
abbrev Eo := Env → Sto → Res (Option Int)
def oNone : Eo := fun _ S => .ok none S
def oSome (a : Ev) : Eo := fun ρ S => (a ρ S).bind fun x S1 => opt ((iV x).map some) S1
def eCut (a : Ev) (lo hi : Eo) : Ev := fun ρ S => (a ρ S).bind fun x S1 => (lo ρ S1).bind fun l S2 => (hi ρ S2).bind fun h S3 => opt (cutS l h S3 x) S3
/-! ### statements -/
def sNil : Sv := fun ρ S => .ok (.nx ρ) S
def sSeq (a b : Sv) : Sv := fun ρ S => (a ρ S).bind fun f S1 => match f with
  | .nx ρ1 => b ρ1 S1
  | f => .ok f S1
def sExpr (a : Ev) : Sv := fun ρ S => (a ρ S).bind fun _ S1 => .ok (.nx ρ) S1
def sRet (a : Ev) : Sv := fun ρ S => (a ρ S).bind fun d S1 => .ok (.rt d) S1
def sIf (t : Tv) (a b : Sv) : Sv := fun ρ S => (t ρ S).bind fun c S1 => if c = true then a ρ S1 else b ρ S1
def sBrk : Sv := fun ρ S => .ok (.bk ρ) S
def sCont : Sv := fun ρ S => .ok (.ct ρ) S
/-- x = e: a value; a list (dict) just made, the frame's own from now on -/
def sSet (i : Nat) (a : Ev) : Sv := fun ρ S => (a ρ S).bind fun d S1 => .ok (.nx (ρ.set i (.fz d))) S1
def sOwn (i : Nat) (a : Ev) : Sv := fun ρ S => (a ρ S).bind fun d S1 => .ok (.nx (ρ.set i (.ow d))) S1
/-- from now on nobody changes it -/
def frz (i : Nat) (ρ : Env) : Env := match ρ[i]? with
  | some (.ow d) => ρ.set i (.fz d)
  | _ => ρ
def sFrz (i : Nat) (a : Sv) : Sv := fun ρ S => a (frz i ρ) S
/-- targets -/
inductive Tg where
  | nm (i : Nat) | tp (ts : List Tg)
mutual
def Tg.put : Tg → D → Env → Option Env
  | .nm i, d, ρ => some (ρ.set i (.fz d))
  | .tp ts, .tup ds, ρ => Tg.puts ts ds ρ
  | .tp _, _, _ => none
def Tg.puts : List Tg → List D → Env → Option Env
  | [], [], ρ => some ρ
  | t :: ts, d :: ds, ρ => (t.put d ρ).bind fun ρ1 => Tg.puts ts ds ρ1
  | _, _, _ => none
end
mutual
def Tg.ix : Tg → List Nat
  | .nm i => [i]
  | .tp ts => Tg.ixs ts
def Tg.ixs : List Tg → List Nat
  | [] => []
  | t :: ts => t.ix ++ Tg.ixs ts
end
def sTg (t : Tg) (a : Ev) : Sv := fun ρ S => (a ρ S).bind fun d S1 => opt ((t.put d ρ).map Fl.nx) S1
/-- a body's end -/
def fin : Fl → Option D
  | .nx _ => some .non
  | .rt d => some d
  | _ => none
def fnD (b : Sv) (ρ : Env) (S : Sto) : Res D := (b ρ S).bind fun f S1 => opt (fin f) S1
/-- a call: M, what the def does with its arguments -/
def eCall (M : List Slot → Sto → Res D) (as : Evs) : Ev := fun ρ S => (as ρ S).bind fun ds S1 => M (ds.map .fz) S1
/-! ### loops -/
abbrev It := Env → Sto → Res (List D)
def forGo (t : Tg) (b : Sv) : List D → Env → Sto → Res Fl
  | [], ρ, S => .ok (.nx ρ) S
  | d :: ds, ρ, S => (opt (t.put d ρ) S).bind fun ρ1 S1 => (b ρ1 S1).bind fun f S2 => match f with
    | .nx ρ2 => forGo t b ds ρ2 S2
    | .ct ρ2 => forGo t b ds ρ2 S2
    | .bk ρ2 => .ok (.nx ρ2) S2
    | .rt d => .ok (.rt d) S2
def sFor (t : Tg) (it : It) (b : Sv) : Sv := fun ρ S => (it ρ S).bind fun ds S1 => forGo t b ds ρ S1
def whileGo (t : Tv) (b : Sv) : Nat → Env → Sto → Res Fl
  | 0, _, _ => .bad
  | n + 1, ρ, S => (t ρ S).bind fun c S1 => if c = true then (b ρ S1).bind fun f S2 => match f with
      | .nx ρ2 => whileGo t b n ρ2 S2
      | .ct ρ2 => whileGo t b n ρ2 S2
      | .bk ρ2 => .ok (.nx ρ2) S2
      | .rt d => .ok (.rt d) S2
    else .ok (.nx ρ) S1
def sWhile (n : Nat) (t : Tv) (b : Sv) : Sv := fun ρ S => whileGo t b n ρ S
/-! what is walked -/
def seqF : D → Option (List D)
  | .tup ds => some ds
  | .lst ds => some ds
  | _ => none
def iSeq (a : Ev) : It := fun ρ S => (a ρ S).bind fun x S1 => opt (seqF x) S1
def iStr (a : Ev) : It := fun ρ S => (a ρ S).bind fun x S1 => match x with
  | .str z => .ok (z.map fun c => D.str [c]) S1
  | _ => .bad
def upto (lo : Int) (n : Nat) : List D := (List.range n).map fun (k : Nat) => .int (lo + (k : Int))
def stepTo (lo c : Int) (n : Nat) : List D := (List.range n).map fun (k : Nat) => .int (lo + (k : Int) * c)
def rangeS : List D → Option (List D)
  | [.int n] => if n < 2 ^ 62 ∧ -(2 ^ 62) ≤ n then some (upto 0 n.toNat) else none
  | [.int a, .int b] => if a < 2 ^ 62 ∧ -(2 ^ 62) ≤ a ∧ b < 2 ^ 62 ∧ -(2 ^ 62) ≤ b then some (upto a (b - a).toNat) else none
  | [.int a, .int b, .int c] => if a < 2 ^ 60 ∧ -(2 ^ 60) ≤ a ∧ b < 2 ^ 60 ∧ -(2 ^ 60) ≤ b ∧ 0 < c ∧ c < 1073741824 then some (stepTo a c (if a < b then ((b - a - 1) / c + 1).toNat else 0)) else none
  | _ => none
def iRange (as : Evs) : It := fun ρ S => (as ρ S).bind fun xs S1 => opt (rangeS xs) S1
def enumL (k : Nat) : List D → List D
  | [] => []
  | d :: ds => .tup [.int (k : Int), d] :: enumL (k + 1) ds
def iEnum (a : Ev) : It := fun ρ S => (a ρ S).bind fun x S1 => opt ((seqF x).map (enumL 0)) S1
/-! ### comprehensions -/
/-- the block's own names are empty ahead of each item -/
def wipe (ρ : Env) : List Nat → Env
  | [] => ρ
  | v :: vs => (wipe ρ vs).set v .un
def lcGo (t : Tg) (c : Tv) (e : Ev) (own : List Nat) (ρ : Env) : List D → Sto → Res (List D)
  | [], S => .ok [] S
  | d :: ds, S => (opt (t.put d (wipe ρ own)) S).bind fun ρ1 S1 => (c ρ1 S1).bind fun k S2 =>
    if k = true then (e ρ1 S2).bind fun y S3 => (lcGo t c e own ρ ds S3).bind fun ys S4 => .ok (y :: ys) S4
    else lcGo t c e own ρ ds S2
def tYes : Tv := fun _ S => .ok true S
/-- no error leaves a comprehension -/
def noX {α : Type} : Res α → Res α
  | .exc _ _ => .bad
  | r => r
@[simp] theorem noX_ok {α : Type} (a : α) (S : Sto) : noX (.ok a S) = .ok a S := rfl
def eLc (t : Tg) (it : It) (c : Tv) (e : Ev) (own : List Nat) : Ev := fun ρ S => (it ρ S).bind fun ds S1 =>
  if ds.length ≤ zLine then (noX (lcGo t c e own ρ ds S1)).bind fun ys S2 => .ok (.lst ys) S2 else .bad
end DL

set_option Elab.async false
set_option linter.all false
set_option maxRecDepth 100000
set_option maxHeartbeats 2000000
/-! DL, part B: how data lie in the abstract heap; readings of expressions and statements. -/
namespace DL
open PySem PySem.Spec PyProof.Rows L2 NdefX
/-- what is fixed from now on, where the store's things stand -/
structure Wo where
  R : Addr → Prop
  m : List Addr
def sOk (x : List Nat) : Prop := x.length ≤ zLine ∧ ∀ c ∈ x, c < 1114112
def strV (x : List Nat) : V := .str ⟨x.toArray⟩
def KTup (K : PySem.W.Frag) (a : Addr) (xs : List V) : Prop :=
  ∃ (o : Obj) (its : Array Value) (n : Nat), K.lookup a = some o ∧ o.cls = .type "tuple" ∧ o.data = .seq its n ∧ its.size ≤ sizeLine ∧ Vals xs its.toList
def keyR : D → Key → Prop
  | .int i, .inl j => i = j
  | .str x, .inr y => y = ⟨x.toArray⟩ ∧ sOk x
  | _, _ => False
section
variable (K : PySem.W.Frag) (mg : Str → Option Value) (W : Wo) (H : Hp)
def TupA (a : Addr) (xs : List V) : Prop := (W.R a ∧ H a = some (.tup xs)) ∨ KTup K a xs
def LstA (a : Addr) (xs : List V) : Prop := W.R a ∧ H a = some (.lst xs)
def DicA (a : Addr) (kvs : List (Key × V)) : Prop := W.R a ∧ H a = some (.dK kvs)
def ScrA (a : Addr) (xs : List V) : Prop := (W.R a ∧ Rd H a (.lst xs)) ∨ ∃ (o : Obj) (its : Array Value) (n : Nat), K.lookup a = some o ∧ o.cls = .type "list" ∧ o.dict = none ∧ o.data = .seq its n ∧ its.size ≤ sizeLine ∧ Vals xs its.toList
mutual
def Rep : D → V → Prop
  | .non, v => v = .non
  | .bl b, v => v = .bl b
  | .int i, v => v = .int i
  | .str x, v => v = strV x ∧ sOk x
  | .tup ds, v => ∃ a xs, v = .ref a ∧ TupA K W H a xs ∧ Reps ds xs
  | .lst ds, v => ∃ a xs, v = .ref a ∧ LstA W H a xs ∧ Reps ds xs
  | .dic kvs, v => ∃ a xs, v = .ref a ∧ DicA W H a xs ∧ RepKs kvs xs
  | .obj l, v => ∃ a, v = .ref a ∧ W.m[l]? = some a
  | .fn x, v => ∃ a, v = .ref a ∧ mg x = some (.ref a)
  | .scr ns, v => ∃ a, v = .ref a ∧ ScrA K W H a (ns.map V.int)
def Reps : List D → List V → Prop
  | [], xs => xs = []
  | d :: ds, xs => ∃ v r, xs = v :: r ∧ Rep d v ∧ Reps ds r
def RepKs : List (D × D) → List (Key × V) → Prop
  | [], xs => xs = []
  | (k, d) :: ds, xs => ∃ k' v r, xs = (k', v) :: r ∧ keyR k k' ∧ Rep d v ∧ RepKs ds r
end
/-- attributes -/
def RepFs : List (Str × D) → List (Str × V) → Prop
  | [], xs => xs = []
  | (f, d) :: ds, xs => ∃ v r, xs = (f, v) :: r ∧ Rep K mg W H d v ∧ RepFs ds r
/-- a list's (dict's) data at p -/
def At (p : Addr) : D → Prop
  | .lst ds => ∃ xs, H p = some (.lst xs) ∧ Reps K mg W H ds xs
  | .dic kvs => ∃ xs, H p = some (.dK xs) ∧ RepKs K mg W H kvs xs
  | _ => False
/-- a value that is read now: fixed, or a list of the frame's own -/
def RepP (d : D) (v : V) : Prop := Rep K mg W H d v ∨ ∃ p, v = .ref p ∧ p ∉ W.m ∧ At K mg W H p d
/-- a list just made: H₁ is the heap ahead -/
def Frs (H₁ : Hp) (d : D) (v : V) : Prop := ∃ p, v = .ref p ∧ H₁ p = none ∧ ¬ W.R p ∧ p ∉ W.m ∧ At K mg W H p d
def CellOk (a : Addr) : Cell → Prop
  | .lst ds => ∃ xs, H a = some (.lst xs) ∧ Reps K mg W H ds xs
  | .dic kvs => ∃ xs, H a = some (.dK xs) ∧ RepKs K mg W H kvs xs
  | .ins c fs => ∃ C dx fv, mg c = some (.ref C) ∧ H a = some (.ins C dx fv) ∧ H dx = some (.own a) ∧ RepFs K mg W H fs fv
def isFz : HO → Prop
  | .tup _ => True
  | .lst _ => True
  | .dK _ => True
  | .frz _ (.lst _) => True
  | _ => False
structure Sta (T : List NTab) (S : Sto) : Prop where
  fz : ∀ a, W.R a → ∃ o, H a = some o ∧ isFz o
  nd : W.m.Nodup
  mR : ∀ a ∈ W.m, ¬ W.R a
  len : W.m.length = S.length
  cells : ∀ (l : Nat) (c : Cell) (a : Addr), S[l]? = some c → W.m[l]? = some a → CellOk K mg W H a c
  tabs : TabsN T H
end
def noTbl : HO → Prop
  | .tbl _ => False
  | _ => True
structure Ext (W : Wo) (H : Hp) (W' : Wo) (H' : Hp) : Prop where
  sub : ∀ a, W.R a → W'.R a
  pre : ∃ more, W'.m = W.m ++ more
  keep : ∀ a o, H a = some o → a ∉ W.m → noTbl o → H' a = some o
  newR : ∀ a, W'.R a → W.R a ∨ H a = none
  newM : ∀ a ∈ W'.m, a ∈ W.m ∨ H a = none
  live : ∀ a, H' a = none → H a = none
theorem Ext.refl {W : Wo} {H : Hp} : Ext W H W H := ⟨fun _ h => h, ⟨[], by simp⟩, fun _ _ h _ _ => h, fun _ h => .inl h, fun _ h => .inl h, fun _ h => h⟩
theorem Ext.trans {W W1 W2 : Wo} {H H1 H2 : Hp} (a : Ext W H W1 H1) (b : Ext W1 H1 W2 H2) : Ext W H W2 H2 where
  sub := fun x h => b.sub x (a.sub x h)
  pre := by
    obtain ⟨m1, e1⟩ := a.pre
    obtain ⟨m2, e2⟩ := b.pre
    exact ⟨m1 ++ m2, by rw [e2, e1, List.append_assoc]⟩
  keep := fun x o h hm ht => by
    have h1 := a.keep x o h hm ht
    refine b.keep x o h1 (fun z => ?_) ht
    rcases a.newM x z with z | z
    · exact hm z
    · rw [h] at z; cases z
  newR := fun x h => by
    rcases b.newR x h with h | h
    · exact a.newR x h
    · exact .inr (a.live x h)
  newM := fun x h => by
    rcases b.newM x h with h | h
    · exact a.newM x h
    · exact .inr (a.live x h)
  live := fun x h => a.live x (b.live x h)
section
variable {K : PySem.W.Frag} {mg : Str → Option Value} {W W' : Wo} {H H' : Hp} {T : List NTab} {S : Sto}
theorem Ext.get {W W' : Wo} (e : Ext W H W' H') {l : Nat} {a : Addr} (h : W.m[l]? = some a) : W'.m[l]? = some a := by
  obtain ⟨m1, e1⟩ := e.pre
  rw [e1, List.getElem?_append_left (by exact (List.getElem?_eq_some_iff.mp h).1)]
  exact h
theorem Sta.notM (s : Sta K mg W H T S) {a : Addr} (h : W.R a) : a ∉ W.m := fun z => s.mR a z h
/-- what data lean on stays -/
structure Lo (W : Wo) (H : Hp) (W' : Wo) (H' : Hp) : Prop where
  sub : ∀ a, W.R a → W'.R a
  pre : ∃ more, W'.m = W.m ++ more
  keep : ∀ a o, W.R a → H a = some o → H' a = some o
theorem Ext.lo (e : Ext W H W' H') (s : Sta K mg W H T S) : Lo W H W' H' := ⟨e.sub, e.pre, fun a o r h => e.keep a o h (s.notM r) (by
  obtain ⟨u, hu, hz⟩ := s.fz a r
  rw [h] at hu; cases hu
  cases o <;> first | trivial | exact hz)⟩
theorem Lo.refl {W : Wo} {H : Hp} : Lo W H W H := ⟨fun _ h => h, ⟨[], by simp⟩, fun _ _ _ h => h⟩
theorem Lo.trans {W W1 W2 : Wo} {H H1 H2 : Hp} (a : Lo W H W1 H1) (b : Lo W1 H1 W2 H2) : Lo W H W2 H2 :=
  ⟨fun x h => b.sub x (a.sub x h), by
    obtain ⟨m1, e1⟩ := a.pre
    obtain ⟨m2, e2⟩ := b.pre
    exact ⟨m1 ++ m2, by rw [e2, e1, List.append_assoc]⟩, fun x o r h => b.keep x o (a.sub x r) (a.keep x o r h)⟩
/-- a thing told by what is true of its object: a def made in place, its captured cells -/
def isXt : HO → Prop
  | .ext _ => True
  | .frz _ (.own _) => True
  | _ => False
/-- what a def made in place leans on stays -/
structure Fu (W : Wo) (H : Hp) (W' : Wo) (H' : Hp) : Prop where
  lo : Lo W H W' H'
  xt : ∀ a o, H a = some o → isXt o → H' a = some o
theorem Sta.notX (s : Sta K mg W H T S) {a : Addr} {o : HO} (h : H a = some o) (x : isXt o) : a ∉ W.m := fun z => by
  obtain ⟨l, hl⟩ := List.getElem?_of_mem z
  have hl2 : l < S.length := by rw [← s.len]; exact (List.getElem?_eq_some_iff.mp hl).1
  have hc := s.cells l S[l] a (by simp [hl2]) hl
  revert hc
  cases S[l] with
  | lst ds => rintro ⟨xs, z, _⟩; rw [h] at z; cases z; exact x
  | dic ds => rintro ⟨xs, z, _⟩; rw [h] at z; cases z; exact x
  | ins c fs => rintro ⟨C, dx, fv, _, z, _⟩; rw [h] at z; cases z; exact x
theorem Ext.fu (e : Ext W H W' H') (s : Sta K mg W H T S) : Fu W H W' H' := ⟨e.lo s, fun a o h x => e.keep a o h (s.notX h x) (by cases o <;> first | trivial | exact x)⟩
theorem Fu.trans {W W1 W2 : Wo} {H H1 H2 : Hp} (a : Fu W H W1 H1) (b : Fu W1 H1 W2 H2) : Fu W H W2 H2 := ⟨a.lo.trans b.lo, fun x o h z => b.xt x o (a.xt x o h z) z⟩
theorem Lo.get (e : Lo W H W' H') {l : Nat} {a : Addr} (h : W.m[l]? = some a) : W'.m[l]? = some a := by
  obtain ⟨m1, e1⟩ := e.pre
  rw [e1, List.getElem?_append_left (by exact (List.getElem?_eq_some_iff.mp h).1)]
  exact h
mutual
theorem Rep.lo (e : Lo W H W' H') : ∀ {d : D} {v : V}, Rep K mg W H d v → Rep K mg W' H' d v
  | .non, _, h => by simpa only [Rep] using h
  | .bl b, _, h => by simpa only [Rep] using h
  | .int i, _, h => by simpa only [Rep] using h
  | .str x, _, h => by simpa only [Rep] using h
  | .tup ds, v, h => by
    simp only [Rep] at h ⊢
    obtain ⟨a, xs, h1, h2, h3⟩ := h
    exact ⟨a, xs, h1, h2.imp (fun ⟨r, h⟩ => ⟨e.sub a r, e.keep a _ r h⟩) id, Reps.lo e h3⟩
  | .lst ds, v, h => by
    simp only [Rep] at h ⊢
    obtain ⟨a, xs, h1, ⟨r, h2⟩, h3⟩ := h
    exact ⟨a, xs, h1, ⟨e.sub a r, e.keep a _ r h2⟩, Reps.lo e h3⟩
  | .dic kvs, v, h => by
    simp only [Rep] at h ⊢
    obtain ⟨a, xs, h1, ⟨r, h2⟩, h3⟩ := h
    exact ⟨a, xs, h1, ⟨e.sub a r, e.keep a _ r h2⟩, RepKs.lo e h3⟩
  | .obj l, v, h => by
    simp only [Rep] at h ⊢
    obtain ⟨a, h1, h2⟩ := h
    exact ⟨a, h1, e.get h2⟩
  | .fn x, v, h => by simpa only [Rep] using h
  | .scr ns, v, h => by
    simp only [Rep] at h ⊢
    obtain ⟨a, h1, h2⟩ := h
    refine ⟨a, h1, h2.imp (fun ⟨r, h⟩ => ⟨e.sub a r, ?_⟩) id⟩
    rcases h with h | ⟨o, h⟩
    · exact .inl (e.keep a _ r h)
    · exact .inr ⟨o, e.keep a _ r h⟩
theorem Reps.lo (e : Lo W H W' H') : ∀ {ds : List D} {xs : List V}, Reps K mg W H ds xs → Reps K mg W' H' ds xs
  | [], _, h => by simpa only [Reps] using h
  | d :: ds, _, h => by
    simp only [Reps] at h ⊢
    obtain ⟨v, r, h1, h2, h3⟩ := h
    exact ⟨v, r, h1, Rep.lo e h2, Reps.lo e h3⟩
theorem RepKs.lo (e : Lo W H W' H') : ∀ {ds : List (D × D)} {xs : List (Key × V)}, RepKs K mg W H ds xs → RepKs K mg W' H' ds xs
  | [], _, h => by simpa only [RepKs] using h
  | (k, d) :: ds, _, h => by
    simp only [RepKs] at h ⊢
    obtain ⟨k', v, r, h1, h2, h3, h4⟩ := h
    exact ⟨k', v, r, h1, h2, Rep.lo e h3, RepKs.lo e h4⟩
end
theorem RepFs.lo (e : Lo W H W' H') : ∀ {ds : List (Str × D)} {xs : List (Str × V)}, RepFs K mg W H ds xs → RepFs K mg W' H' ds xs
  | [], _, h => by simpa only [RepFs] using h
  | (k, d) :: ds, _, h => by
    simp only [RepFs] at h ⊢
    obtain ⟨v, r, h1, h2, h3⟩ := h
    exact ⟨v, r, h1, h2.lo e, RepFs.lo e h3⟩
theorem Rep.ext (e : Ext W H W' H') (s : Sta K mg W H T S) {d : D} {v : V} (h : Rep K mg W H d v) : Rep K mg W' H' d v := h.lo (e.lo s)
theorem Reps.ext (e : Ext W H W' H') (s : Sta K mg W H T S) {d : List D} {v : List V} (h : Reps K mg W H d v) : Reps K mg W' H' d v := h.lo (e.lo s)
theorem RepKs.ext (e : Ext W H W' H') (s : Sta K mg W H T S) {d : List (D × D)} {v : List (Key × V)} (h : RepKs K mg W H d v) : RepKs K mg W' H' d v := h.lo (e.lo s)
theorem RepFs.ext (e : Ext W H W' H') (s : Sta K mg W H T S) {d : List (Str × D)} {v : List (Str × V)} (h : RepFs K mg W H d v) : RepFs K mg W' H' d v := h.lo (e.lo s)
theorem At.ext (e : Ext W H W' H') (s : Sta K mg W H T S) {p : Addr} (hm : p ∉ W.m) : ∀ {d : D}, At K mg W H p d → At K mg W' H' p d
  | .lst ds, h => by
    obtain ⟨xs, h1, h2⟩ := h
    exact ⟨xs, e.keep p _ h1 hm trivial, h2.ext e s⟩
  | .dic kvs, h => by
    obtain ⟨xs, h1, h2⟩ := h
    exact ⟨xs, e.keep p _ h1 hm trivial, h2.ext e s⟩
theorem At.live {p : Addr} : ∀ {d : D}, At K mg W H p d → ∃ o, H p = some o ∧ isFz o
  | .lst ds, ⟨xs, h1, h2⟩ => ⟨_, h1, trivial⟩
  | .dic kvs, ⟨xs, h1, h2⟩ => ⟨_, h1, trivial⟩
theorem Ext.notM (e : Ext W H W' H') {p : Addr} {o : HO} (hp : H p = some o) (hm : p ∉ W.m) : p ∉ W'.m := fun z => by
  rcases e.newM p z with z | z
  · exact hm z
  · rw [hp] at z; cases z
theorem Ext.notR (e : Ext W H W' H') {p : Addr} {o : HO} (hp : H p = some o) (hm : ¬ W.R p) : ¬ W'.R p := fun z => by
  rcases e.newR p z with z | z
  · exact hm z
  · rw [hp] at z; cases z
theorem RepP.ext (e : Ext W H W' H') (s : Sta K mg W H T S) {d : D} {v : V} (h : RepP K mg W H d v) : RepP K mg W' H' d v := by
  rcases h with h | ⟨p, h1, h2, h3⟩
  · exact .inl (h.ext e s)
  · obtain ⟨o, ho, _⟩ := h3.live
    exact .inr ⟨p, h1, e.notM ho h2, h3.ext e s h2⟩
/-- a new thing that is tracked changes nothing -/
theorem Ext.new {p : Addr} {o : HO} (hn : H p = none) : Ext W H W (upd H p o) :=
  ⟨fun _ h => h, ⟨[], by simp⟩, fun a u h _ _ => by rw [upd_ne (ne_of_none h hn)]; exact h, fun _ h => .inl h, fun _ h => .inl h, fun a h => by
    unfold upd at h
    split at h
    · cases h
    · exact h⟩
/-- .. and is fixed -/
def Wo.fix (W : Wo) (p : Addr) : Wo := ⟨fun a => W.R a ∨ a = p, W.m⟩
theorem Ext.fix {p : Addr} {o : HO} (hn : H p = none) : Ext W H (W.fix p) (upd H p o) :=
  ⟨fun _ h => .inl h, ⟨[], by simp [Wo.fix]⟩, (Ext.new (W := W) hn).keep, fun a h => by
    rcases h with h | rfl
    · exact .inl h
    · exact .inr hn, fun _ h => .inl h, (Ext.new (W := W) hn).live⟩
theorem CellOk.lo (e : Lo W H W' H') {a : Addr} (k : ∀ o, H a = some o → H' a = some o) (hd : ∀ b, H b = some (.own a) → H' b = some (.own a)) : ∀ {c : Cell}, CellOk K mg W H a c → CellOk K mg W' H' a c
  | .lst ds, ⟨xs, h1, h2⟩ => ⟨xs, k _ h1, h2.lo e⟩
  | .dic kvs, ⟨xs, h1, h2⟩ => ⟨xs, k _ h1, h2.lo e⟩
  | .ins c fs, ⟨C, dx, fv, h1, h2, h3, h4⟩ => ⟨C, dx, fv, h1, k _ h2, hd _ h3, h4.lo e⟩
theorem TabsN.upd' (t : TabsN T H) {p : Addr} {o : HO} (hn : H p = none) : TabsN T (upd H p o) := t.ext fun b u h => by rw [upd_ne (ne_of_none h hn)]; exact h
theorem Sta.new {p : Addr} {o : HO} (s : Sta K mg W H T S) (hn : H p = none) : Sta K mg W (upd H p o) T S where
  fz := fun a h => by
    obtain ⟨u, hu, hz⟩ := s.fz a h
    exact ⟨u, by rw [upd_ne (ne_of_none hu hn)]; exact hu, hz⟩
  nd := s.nd
  mR := s.mR
  len := s.len
  cells := fun l c a h1 h2 => (s.cells l c a h1 h2).lo ((Ext.new hn).lo s) (fun o h => by rw [upd_ne (ne_of_none h hn)]; exact h) fun b h => by rw [upd_ne (ne_of_none h hn)]; exact h
  tabs := TabsN.upd' s.tabs hn
/-- a list of the frame's own, a new one: from now on fixed -/
theorem Ext.fixAt {p : Addr} {W₁ : Wo} (H₁ : Hp) (hn : H₁ p = none) (e : Ext W₁ H₁ W H) : Ext W₁ H₁ (W.fix p) H :=
  ⟨fun a h => .inl (e.sub a h), e.pre, e.keep, fun a h => by
    rcases h with h | rfl
    · exact e.newR a h
    · exact .inr hn, e.newM, e.live⟩
end
end DL

set_option Elab.async false
set_option linter.all false
set_option maxRecDepth 100000
set_option maxHeartbeats 2000000
/-! DL, part C: frames, readings, the core rules. -/
namespace DL
open PySem PySem.Spec PyProof.Rows L2 NdefX
/-- what is the same all through a law: program, world, facts, tables; the level of defs made in place; the error at hand -/
structure Gb where
  P : Program
  w : World
  K : PySem.W.Frag
  mg : Str → Option Value
  base : Heap
  T : List NTab
  k : Nat
  err : Option (Addr × Value × Option Addr)
abbrev Gb.of (X : Cx) (T : List NTab) (k : Nat) (err : Option (Addr × Value × Option Addr)) : Gb := ⟨X.prog, X.w, X.K, X.mg, X.base, T, k, err⟩
abbrev Gb.Sta (g : Gb) (W : Wo) (H : Hp) (S : Sto) : Prop := DL.Sta g.K g.mg W H g.T S
abbrev Gb.Rep (g : Gb) (W : Wo) (H : Hp) (d : D) (v : V) : Prop := DL.Rep g.K g.mg W H d v
abbrev Gb.Reps (g : Gb) (W : Wo) (H : Hp) (d : List D) (v : List V) : Prop := DL.Reps g.K g.mg W H d v
/-- an error e of class cls, its dict at d -/
def ExcOk (g : Gb) (W : Wo) (H : Hp) (e : Exn) (cls : Value) (d : Option Addr) : Prop :=
  ∃ C, cls = .ref C ∧ g.mg e.cls = some (.ref C) ∧ ((e.fs = [] ∧ d = none) ∨ ∃ x fv, d = some x ∧ H x = some (.xd fv) ∧ RepFs g.K g.mg W H e.fs fv)
/-- what a call of a pure meaning promises -/
def clP (g : Gb) (W : Wo) (G : List D → Sto → Res D) (vs : List V) (H : Hp) (Q : VK) (E : XK) : Prop :=
  ∃ S ds, g.Sta W H S ∧ g.Reps W H ds vs ∧ match G ds S with
    | .ok d S' => ∀ v W' H', Ext W H W' H' → g.Sta W' H' S' → g.Rep W' H' d v → Q v H'
    | .exc e S' => ∀ W' H' cls x, Ext W H W' H' → g.Sta W' H' S' → ExcOk g W' H' e cls x → E cls x H'
    | .bad => False
/-- a def made in place, as its callers see it: wherever it is called from now on -/
def CloOk (g : Gb) (W : Wo) (H : Hp) (G : List D → Sto → Res D) (v : V) : Prop :=
  ∃ f, v = .ref f ∧ ∀ W' H', Fu W H W' H' → (∀ h, HOk g.P g.w H' h → PySem.W.FnAt f h) ∧
    ∀ (A : Around) (outer : List PySem.Env) (s : Shared) (us : List Value) (vs : List V) (Q : VK) (E : XK), Room g.k A → Env0 g.P g.w g.K g.mg g.base A outer s H' → Vals vs us → clP g W' G vs H' Q E →
      codeAny (model g.P g.w) A (.call (.ref f) ⟨us, []⟩) (CR (L2.CX g.P g.w) outer g.P g.w H' s Q E) s
/-- the error at hand -/
def ErrOk (g : Gb) (W : Wo) (H : Hp) (e : Exn) (v : V) : Prop := ∃ a cls d, g.err = some (a, cls, d) ∧ v = .ref a ∧ ExcOk g W H e cls d
def SlotOk (g : Gb) (W : Wo) (H H₀ : Hp) : Slot → Option V → Prop
  | .un, _ => True
  | .fz d, ov => ∃ v, ov = some v ∧ g.Rep W H d v
  | .ow d, ov => ∃ p, ov = some (.ref p) ∧ H₀ p = none ∧ ¬ W.R p ∧ p ∉ W.m ∧ At g.K g.mg W H p d
  | .cl G, ov => ∃ v, ov = some v ∧ CloOk g W H G v
  | .ex e, ov => ∃ v, ov = some v ∧ ErrOk g W H e v
structure EnvOk (g : Gb) (W : Wo) (H H₀ : Hp) (ρ : DL.Env) (σ : L2.St) : Prop where
  len : ρ.length = σ.length
  at_ : ∀ (i : Nat) s ov, ρ[i]? = some s → σ[i]? = some ov → SlotOk g W H H₀ s ov
  own : ∀ (i j : Nat) d e p, i ≠ j → ρ[i]? = some (.ow d) → ρ[j]? = some (.ow e) → σ[i]? = some (some (.ref p)) → σ[j]? ≠ some (some (.ref p))
section
variable {g : Gb} {W W' : Wo} {H H' H₀ : Hp} {S S' : Sto} {ρ : DL.Env} {σ : L2.St}
theorem ExcOk.ext (e : Ext W H W' H') (s : g.Sta W H S) {x : Exn} {cls : Value} {d : Option Addr} (h : ExcOk g W H x cls d) : ExcOk g W' H' x cls d := by
  obtain ⟨C, h1, h2, h3⟩ := h
  refine ⟨C, h1, h2, ?_⟩
  rcases h3 with h3 | ⟨p, fv, h3, h4, h5⟩
  · exact .inl h3
  · refine .inr ⟨p, fv, h3, e.keep p _ h4 (fun z => ?_) trivial, h5.ext e s⟩
    obtain ⟨l, hl⟩ := List.getElem?_of_mem z
    have hl2 : l < S.length := by rw [← s.len]; exact (List.getElem?_eq_some_iff.mp hl).1
    have hc := s.cells l S[l] p (by simp [hl2]) hl
    revert hc
    cases S[l] with
    | lst ds => rintro ⟨xs, z, _⟩; rw [h4] at z; cases z
    | dic ds => rintro ⟨xs, z, _⟩; rw [h4] at z; cases z
    | ins c fs => rintro ⟨C, dx, fv, _, z, _⟩; rw [h4] at z; cases z
theorem CloOk.fu (e : Fu W H W' H') {G : List D → Sto → Res D} {v : V} (h : CloOk g W H G v) : CloOk g W' H' G v := by
  obtain ⟨f, h1, h2⟩ := h
  exact ⟨f, h1, fun W2 H2 e2 => h2 W2 H2 (e.trans e2)⟩
theorem CloOk.ext (e : Ext W H W' H') (s : g.Sta W H S) {G : List D → Sto → Res D} {v : V} (h : CloOk g W H G v) : CloOk g W' H' G v := h.fu (e.fu s)
theorem SlotOk.ext (e : Ext W H W' H') (s : g.Sta W H S) : ∀ {x : Slot} {ov : Option V}, SlotOk g W H H₀ x ov → SlotOk g W' H' H₀ x ov
  | .un, _, _ => trivial
  | .fz d, _, ⟨v, h1, h2⟩ => ⟨v, h1, Rep.ext e s h2⟩
  | .ow d, _, ⟨p, h1, h2, h3, h4, h5⟩ => by
    obtain ⟨o, ho, _⟩ := h5.live
    exact ⟨p, h1, h2, e.notR ho h3, e.notM ho h4, h5.ext e s h4⟩
  | .cl G, _, ⟨v, h1, h2⟩ => ⟨v, h1, h2.ext e s⟩
  | .ex x, _, ⟨v, h1, a, cls, d, h2, h3, h4⟩ => ⟨v, h1, a, cls, d, h2, h3, h4.ext e s⟩
theorem EnvOk.ext (n : EnvOk g W H H₀ ρ σ) (e : Ext W H W' H') (s : g.Sta W H S) : EnvOk g W' H' H₀ ρ σ :=
  ⟨n.len, fun i x ov h1 h2 => (n.at_ i x ov h1 h2).ext e s, n.own⟩
theorem EnvOk.get (n : EnvOk g W H H₀ ρ σ) {i : Nat} {x : Slot} (h : ρ[i]? = some x) : ∃ ov, σ[i]? = some ov ∧ SlotOk g W H H₀ x ov := by
  have hi : i < σ.length := by rw [← n.len]; exact (List.getElem?_eq_some_iff.mp h).1
  exact ⟨σ[i], by simp [hi], n.at_ i x σ[i] h (by simp [hi])⟩
theorem getElem?_set' {α : Type} (l : List α) (i j : Nat) (a : α) : (l.set i a)[j]? = if i = j ∧ j < l.length then some a else l[j]? := by
  rw [List.getElem?_set]
  by_cases h : i = j
  · subst h
    by_cases h2 : i < l.length
    · simp [h2]
    · simp [h2]
  · simp [h]
/-- a slot gets a value -/
theorem EnvOk.set (n : EnvOk g W H H₀ ρ σ) (i : Nat) {x : Slot} {v : Option V} (hx : SlotOk g W H H₀ x v)
    (ho : ∀ d, x = .ow d → ∀ (j : Nat) e p, j ≠ i → ρ[j]? = some (.ow e) → v = some (.ref p) → σ[j]? ≠ some (some (.ref p))) : EnvOk g W H H₀ (ρ.set i x) (σ.set i v) where
  len := by rw [List.length_set, List.length_set, n.len]
  at_ := fun j s ov h1 h2 => by
    rw [getElem?_set'] at h1 h2
    rw [n.len] at h1
    by_cases hc : i = j ∧ j < σ.length
    · rw [if_pos hc] at h1 h2
      cases h1; cases h2
      exact hx
    · rw [if_neg hc] at h1 h2
      exact n.at_ j s ov h1 h2
  own := fun j k d e p hjk h1 h2 h3 h4 => by
    rw [getElem?_set'] at h1 h2 h3 h4
    rw [n.len] at h1 h2
    by_cases hj : i = j ∧ j < σ.length
    · have hk : ¬ (i = k ∧ k < σ.length) := fun z => hjk (hj.1.symm.trans z.1)
      rw [if_pos hj] at h1 h3
      rw [if_neg hk] at h2 h4
      have hx := Option.some.inj h1
      have hv := Option.some.inj h3
      exact ho d hx k e p (fun z => hjk (hj.1.symm.trans z.symm)) h2 hv h4
    · rw [if_neg hj] at h1 h3
      by_cases hk : i = k ∧ k < σ.length
      · rw [if_pos hk] at h2 h4
        have hx := Option.some.inj h2
        have hv := Option.some.inj h4
        exact ho e hx j d p (fun z => hj ⟨z.symm, by rw [← n.len]; exact (List.getElem?_eq_some_iff.mp h1).1⟩) h1 hv h3
      · rw [if_neg hk] at h2 h4
        exact n.own j k d e p hjk h1 h2 h3 h4
theorem EnvOk.fz (n : EnvOk g W H H₀ ρ σ) (i : Nat) {d : D} {v : V} (h : g.Rep W H d v) : EnvOk g W H H₀ (ρ.set i (.fz d)) (σ.set i (some v)) :=
  n.set i ⟨v, rfl, h⟩ fun _ z => nomatch z
/-- a list of the frame's own, a new thing: from now on fixed -/
theorem Sta.fixAt (s : g.Sta W H S) {p : Addr} {o : HO} (hp : H p = some o) (hz : isFz o) (hm : p ∉ W.m) : g.Sta (W.fix p) H S where
  fz := fun a h => by
    rcases h with h | rfl
    · exact s.fz a h
    · exact ⟨o, hp, hz⟩
  nd := s.nd
  mR := fun a ha h => by
    rcases h with h | rfl
    · exact s.mR a ha h
    · exact hm ha
  len := s.len
  cells := fun l c a h1 h2 => (s.cells l c a h1 h2).lo ⟨fun _ h => Or.inl h, ⟨[], by simp [Wo.fix]⟩, fun _ _ _ h => h⟩ (fun o h => h) fun b h => h
  tabs := s.tabs
end
/-! ### readings -/
abbrev Rl (α β : Type) := Hp → Wo → Hp → α → β → Prop
def rlR (g : Gb) : Rl D V := fun _ W H d v => g.Rep W H d v
def rlP (g : Gb) : Rl D V := fun _ W H d v => RepP g.K g.mg W H d v
def rlF (g : Gb) : Rl D V := fun H₁ W H d v => Frs g.K g.mg W H H₁ d v
def rlE {α : Type} : Rl α α := fun _ _ _ a b => a = b
def rlRs (g : Gb) : Rl (List D) (List V) := fun _ W H d v => g.Reps W H d v
def Mono {α β : Type} (P : Rl α β) : Prop := ∀ H₁ H₂ W H a b, (∀ x, H₂ x = none → H₁ x = none) → P H₂ W H a b → P H₁ W H a b
theorem monoR {g : Gb} : Mono (rlR g) := fun _ _ _ _ _ _ _ h => h
theorem monoP {g : Gb} : Mono (rlP g) := fun _ _ _ _ _ _ _ h => h
theorem monoE {α : Type} : Mono (rlE (α := α)) := fun _ _ _ _ _ _ _ h => h
theorem monoRs {g : Gb} : Mono (rlRs g) := fun _ _ _ _ _ _ _ h => h
theorem monoF {g : Gb} : Mono (rlF g) := fun _ _ _ _ _ _ l ⟨p, h1, h2, h3⟩ => ⟨p, h1, l _ h2, h3⟩
def rdp {α β : Type} (g : Gb) (Wx : WX) (P : Rl α β) (σ : L2.St) (W : Wo) (H : Hp) (r : Res α) (Q : β → Hp → Prop) : Prop := match r with
  | .ok d S' => ∀ v W' H', Ext W H W' H' → g.Sta W' H' S' → P H W' H' d v → Q v H'
  | .exc e S' => ∀ W' H' cls x, Ext W H W' H' → g.Sta W' H' S' → ExcOk g W' H' e cls x → Wx cls x σ H'
  | .bad => False
def rd {α β : Type} (g : Gb) (Wx : WX) (H₀ : Hp) (P : Rl α β) (f : DL.Env → Sto → Res α) : L2.St → Hp → (β → Hp → Prop) → Prop := fun σ H Q =>
  ∃ W ρ S, g.Sta W H S ∧ EnvOk g W H H₀ ρ σ ∧ rdp g Wx P σ W H (f ρ S) Q
section
variable {g : Gb} {Wx : WX} {W W' : Wo} {H H' H₀ : Hp} {S S' : Sto} {ρ : DL.Env} {σ : L2.St} {α β γ δ : Type} {P : Rl α β} {P2 : Rl γ δ}
theorem rdp.mv (hP : Mono P) (e : Ext W H W' H') : ∀ {r : Res α} {Q : β → Hp → Prop}, rdp g Wx P σ W H r Q → rdp g Wx P σ W' H' r Q
  | .ok d S', Q, h => fun v W2 H2 e2 s2 p => h v W2 H2 (e.trans e2) s2 (hP _ _ _ _ _ _ e.live p)
  | .exc x S', Q, h => fun W2 H2 cls y e2 s2 p => h W2 H2 cls y (e.trans e2) s2 p
  | .bad, _, h => h
theorem rdp.mono {Q Q' : β → Hp → Prop} : ∀ {r : Res α}, rdp g Wx P σ W H r Q → (∀ v H, Q v H → Q' v H) → rdp g Wx P σ W H r Q'
  | .ok d S', h, k => fun v W2 H2 e2 s2 p => k _ _ (h v W2 H2 e2 s2 p)
  | .exc x S', h, k => h
  | .bad, h, _ => h
theorem rd.mono {f : DL.Env → Sto → Res α} {Q Q' : β → Hp → Prop} (h : rd g Wx H₀ P f σ H Q) (k : ∀ v H, Q v H → Q' v H) : rd g Wx H₀ P f σ H Q' := by
  obtain ⟨W, ρ, S, st, en, h⟩ := h
  exact ⟨W, ρ, S, st, en, h.mono k⟩
/-- a part is evaluated, then the rest -/
theorem step (hP : Mono P2) {f : DL.Env → Sto → Res α} {k : α → Sto → Res γ} {Q : δ → Hp → Prop} {Q1 : β → Hp → Prop} (st : g.Sta W H S) (en : EnvOk g W H H₀ ρ σ) (h : rdp g Wx P2 σ W H ((f ρ S).bind k) Q)
    (c : ∀ v W1 H1 S1 a, Ext W H W1 H1 → g.Sta W1 H1 S1 → EnvOk g W1 H1 H₀ ρ σ → P H W1 H1 a v → rdp g Wx P2 σ W1 H1 (k a S1) Q → Q1 v H1) : rd g Wx H₀ P f σ H Q1 := by
  refine ⟨W, ρ, S, st, en, ?_⟩
  revert h
  cases f ρ S with
  | ok a S1 => exact fun h v W1 H1 e1 s1 p => c v W1 H1 S1 a e1 s1 (en.ext e1 st) p (h.mv hP e1)
  | exc x S1 => exact fun h => h
  | bad => exact fun h => h
theorem rdp.opt {o : Option α} {Q : β → Hp → Prop} (h : rdp g Wx P σ W H (opt o S) Q) : ∃ a, o = some a ∧ ∀ v W' H', Ext W H W' H' → g.Sta W' H' S → P H W' H' a v → Q v H' := by
  cases o with
  | none => exact h.elim
  | some a => exact ⟨a, rfl, h⟩
end
section
variable {X : Cx} {g : Gb} {Wx : WX} {H₀ : Hp}
theorem _root_.L2.PE.imp {e : Expr} {t t' : TE} (h : PE X e t) (k : ∀ σ H Q, t' σ H Q → t σ H Q) : PE X e t' := ⟨fun pins s σ H Q I z => h.run pins s σ H Q I (k _ _ _ z)⟩
theorem _root_.L2.PT.imp {e : Expr} {t t' : TT} (h : PT X e t) (k : ∀ σ H Q, t' σ H Q → t σ H Q) : PT X e t' := ⟨fun pins s σ H Q I z => h.run pins s σ H Q I (k _ _ _ z)⟩
theorem _root_.L2.PW.imp {e : Expr} {t t' : TT} (h : PW X e t) (k : ∀ σ H Q, t' σ H Q → t σ H Q) : PW X e t' := ⟨fun wh pins s σ H Q I z => h.run wh pins s σ H Q I (k _ _ _ z)⟩
theorem _root_.L2.PA.imp {e : List Expr} {t t' : TA} (h : PA X e t) (k : ∀ σ H Q, t' σ H Q → t σ H Q) : PA X e t' := ⟨fun p pins s σ H Q I z => h.run p pins s σ H Q I (k _ _ _ z)⟩
theorem _root_.L2.PS.imp {e : Stmt} {t t' : TS} (h : PS X e t) (k : ∀ D σ H, t' D σ H → t D σ H) : PS X e t' := ⟨fun pins s σ H D I z => h.run pins s σ H D I (k _ _ _ z)⟩
theorem _root_.L2.PSs.imp {e : List Stmt} {t t' : TS} (h : PSs X e t) (k : ∀ D σ H, t' D σ H → t D σ H) : PSs X e t' := ⟨fun pins s σ H D I z => h.run pins s σ H D I (k _ _ _ z)⟩
/-- of a fixed value what is read in place; of a new list a fixed one, one that is read -/
theorem toP {e : Expr} {f : Ev} (h : PE X e (rd g Wx H₀ (rlR g) f)) : PE X e (rd g Wx H₀ (rlP g) f) := h.imp fun σ H Q ⟨W, ρ, S, st, en, h⟩ => by
  refine ⟨W, ρ, S, st, en, ?_⟩
  revert h
  cases f ρ S with
  | ok a S1 => exact fun h v W1 H1 e1 s1 p => h v W1 H1 e1 s1 (.inl p)
  | exc x S1 => exact fun h => h
  | bad => exact fun h => h
theorem FtoP {e : Expr} {f : Ev} (h : PE X e (rd g Wx H₀ (rlF g) f)) : PE X e (rd g Wx H₀ (rlP g) f) := h.imp fun σ H Q ⟨W, ρ, S, st, en, h⟩ => by
  refine ⟨W, ρ, S, st, en, ?_⟩
  revert h
  cases f ρ S with
  | ok a S1 => exact fun h v W1 H1 e1 s1 ⟨p, h1, h2, h3, h4, h5⟩ => h v W1 H1 e1 s1 (.inr ⟨p, h1, h4, h5⟩)
  | exc x S1 => exact fun h => h
  | bad => exact fun h => h
theorem fix_rep {W : Wo} {H : Hp} {p : Addr} : ∀ {d : D}, At g.K g.mg W H p d → g.Rep (W.fix p) H d (.ref p)
  | .lst ds, ⟨xs, h1, h2⟩ => by
    simp only [Rep]
    exact ⟨p, xs, rfl, ⟨.inr rfl, h1⟩, h2.lo ⟨fun _ h => Or.inl h, ⟨[], by simp [Wo.fix]⟩, fun _ _ _ h => h⟩⟩
  | .dic ds, ⟨xs, h1, h2⟩ => by
    simp only [Rep]
    exact ⟨p, xs, rfl, ⟨.inr rfl, h1⟩, h2.lo ⟨fun _ h => Or.inl h, ⟨[], by simp [Wo.fix]⟩, fun _ _ _ h => h⟩⟩
theorem FtoR {e : Expr} {f : Ev} (h : PE X e (rd g Wx H₀ (rlF g) f)) : PE X e (rd g Wx H₀ (rlR g) f) := h.imp fun σ H Q ⟨W, ρ, S, st, en, h⟩ => by
  refine ⟨W, ρ, S, st, en, ?_⟩
  revert h
  cases f ρ S with
  | ok a S1 =>
    intro h v W1 H1 e1 s1 ⟨p, h1, h2, h3, h4, h5⟩
    obtain ⟨o, ho, hz⟩ := h5.live
    subst h1
    exact h _ (W1.fix p) H1 (e1.fixAt H h2) (s1.fixAt ho hz h4) (fix_rep h5)
  | exc x S1 => exact fun h => h
  | bad => exact fun h => h
/-! ### names, constants -/
theorem d_vr {i : Nat} {x : Str} {pos : Pos} (h : PE X (.Name x pos) (tVar i)) : PE X (.Name x pos) (rd g Wx H₀ (rlR g) (vr i)) := h.imp fun σ H Q ⟨W, ρ, S, st, en, h⟩ => by
  have h : rdp g Wx (rlR g) σ W H (slotR ρ[i]? S) Q := h
  cases e : ρ[i]? with
  | none => rw [e] at h; exact h.elim
  | some x =>
    rw [e] at h
    obtain ⟨ov, h1, h2⟩ := en.get e
    cases x with
    | fz d =>
      obtain ⟨v, rfl, h3⟩ := h2
      exact ⟨v, h1, h v W H Ext.refl st h3⟩
    | _ => exact h.elim
theorem d_pk {i : Nat} {x : Str} {pos : Pos} (h : PE X (.Name x pos) (tVar i)) : PE X (.Name x pos) (rd g Wx H₀ (rlP g) (pk i)) := h.imp fun σ H Q ⟨W, ρ, S, st, en, h⟩ => by
  have h : rdp g Wx (rlP g) σ W H (slotP ρ[i]? S) Q := h
  cases e : ρ[i]? with
  | none => rw [e] at h; exact h.elim
  | some x =>
    rw [e] at h
    obtain ⟨ov, h1, h2⟩ := en.get e
    cases x with
    | fz d =>
      obtain ⟨v, rfl, h3⟩ := h2
      exact ⟨v, h1, h v W H Ext.refl st (.inl h3)⟩
    | ow d =>
      obtain ⟨p, rfl, _, h3, h4, h5⟩ := h2
      exact ⟨.ref p, h1, h (.ref p) W H Ext.refl st (.inr ⟨p, rfl, h4, h5⟩)⟩
    | _ => exact h.elim
/-- a constant, by its value -/
theorem d_c {e : Expr} {v : V} {d : D} (h : PE X e (tC v)) (r : ∀ W H, g.Rep W H d v) : PE X e (rd g Wx H₀ (rlR g) (kc d)) := h.imp fun σ H Q ⟨W, ρ, S, st, en, h⟩ => h v W H Ext.refl st (r W H)
theorem d_int {i : Int} {j pos} : PE X (.Constant (.int i) j pos) (rd g Wx H₀ (rlR g) (kc (.int i))) := d_c pe_int fun _ _ => by simp only [Rep]
theorem d_bl {b : Bool} {j pos} : PE X (.Constant (.bool b) j pos) (rd g Wx H₀ (rlR g) (kc (.bl b))) := d_c pe_bl fun _ _ => by simp only [Rep]
theorem d_non {j pos} : PE X (.Constant .none j pos) (rd g Wx H₀ (rlR g) (kc .non)) := d_c pe_non fun _ _ => by simp only [Rep]
def sokB (x : List Nat) : Bool := decide (x.length ≤ zLine) && x.all fun c => decide (c < 1114112)
theorem sok_of {x : List Nat} (h : sokB x = true) : sOk x := by
  obtain ⟨h1, h2⟩ := Bool.and_eq_true_iff.mp h
  exact ⟨of_decide_eq_true h1, fun c hc => of_decide_eq_true (List.all_eq_true.mp h2 c hc)⟩
theorem d_str {x : Str} {y : List Nat} {j pos} (e : x.cps.toList = y) (h : sokB y = true) : PE X (.Constant (.str x) j pos) (rd g Wx H₀ (rlR g) (kc (.str y))) := d_c pe_str fun _ _ => by
  simp only [Rep]
  refine ⟨?_, sok_of h⟩
  rw [← e, strV, Array.toArray_toList]
/-- a def or class of the module -/
theorem d_fn {x : Str} {a : Addr} {pos} (hg : Gl X x) (hm : X.mg x = some (.ref a)) (e : g.mg = X.mg) (hd : (x == ("__debug__" : Str)) = false := by decide) : PE X (.Name x pos) (rd g Wx H₀ (rlR g) (kc (.fn x))) :=
  d_c (v := .ref a) (pe_glob hg hm rfl hd) fun _ _ => by simp only [Rep]; exact ⟨a, rfl, by rw [e]; exact hm⟩
/-! ### operators -/
/-- what an operator on two values gives -/
def OpD (g : Gb) (X : Cx) (F : Value → Value → Sem Value) (P : Rl D V) (o : Sto → D → D → Option D) : Prop :=
  ∃ r, OpR X F r ∧ ∀ W H S a b z x y Q, g.Sta W H S → RepP g.K g.mg W H a x → RepP g.K g.mg W H b y → o S a b = some z → (∀ v W' H', Ext W H W' H' → g.Sta W' H' S → P H W' H' z v → Q v H') → r x y H Q
variable {a b c : Expr} {fa fb fc : Ev} {pos : Pos} {P : Rl D V}
theorem d_op {op : Operator} {o : Sto → D → D → Option D} (hP : Mono P) (ho : OpD g X (binaryOp op) P o) (ha : PE X a (rd g Wx H₀ (rlP g) fa)) (hb : PE X b (rd g Wx H₀ (rlP g) fb)) : PE X (.BinOp a op b pos) (rd g Wx H₀ P (e2 o fa fb)) := by
  obtain ⟨r, hr, im⟩ := ho
  refine (pe_op hr ha hb).imp fun σ H Q ⟨W, ρ, S, st, en, h⟩ => ?_
  refine step hP st en h fun x W1 H1 S1 d e1 s1 n1 p1 h1 => step hP s1 n1 h1 fun y W2 H2 S2 d2 e2 s2 n2 p2 h2 => ?_
  obtain ⟨z, ez, h3⟩ := h2.opt
  exact im W2 H2 S2 d d2 z x y Q s2 (RepP.ext e2 s1 p1) p2 ez h3
theorem d_cmp {op : CmpOp} {o : Sto → D → D → Option D} (hP : Mono P) (ho : OpD g X (compareOp op) P o) (ha : PE X a (rd g Wx H₀ (rlP g) fa)) (hb : PE X b (rd g Wx H₀ (rlP g) fb)) (hm : behindInMarks op b = false) : PE X (.Compare a [op] [b] pos) (rd g Wx H₀ P (e2 o fa fb)) := by
  obtain ⟨r, hr, im⟩ := ho
  refine (pe_cmpR hr ha hb hm).imp fun σ H Q ⟨W, ρ, S, st, en, h⟩ => ?_
  refine step hP st en h fun x W1 H1 S1 d e1 s1 n1 p1 h1 => step hP s1 n1 h1 fun y W2 H2 S2 d2 e2 s2 n2 p2 h2 => ?_
  obtain ⟨z, ez, h3⟩ := h2.opt
  exact im W2 H2 S2 d d2 z x y Q s2 (RepP.ext e2 s1 p1) p2 ez h3
end
end DL

set_option Elab.async false
set_option linter.all false
set_option maxRecDepth 100000
set_option maxHeartbeats 2000000
/-! DL, part D: tests, displays, calls of the text's own defs, statements. -/
namespace DL
open PySem PySem.Spec PyProof.Rows L2 NdefX
section
variable {X : Cx} {g : Gb} {Wx : WX} {H₀ : Hp} {a b c e : Expr} {fa fb fc f : Ev} {ta tb tc : Tv} {pos : Pos} {P : Rl D V} {rest : List Expr}
theorem RepP.bl {W : Wo} {H : Hp} {b : Bool} {v : V} (h : RepP g.K g.mg W H (.bl b) v) : v = .bl b := by
  rcases h with h | ⟨p, _, _, h⟩
  · simpa only [Rep] using h
  · exact h.elim
theorem Rep.bl {W : Wo} {H : Hp} {b : Bool} {v : V} (h : g.Rep W H (.bl b) v) : v = .bl b := by simpa only [Rep] using h
theorem bV_eq {d : D} {b : Bool} (h : bV d = some b) : d = .bl b := by
  cases d <;> first | (cases h; rfl) | cases h
/-! ### tests -/
theorem d_tB (h : PE X e (rd g Wx H₀ (rlP g) f)) (he : ∀ whole, isTrue e X.env whole = (do let v ← whole; standAt e.pos; holding [v] (truthy v)) := by intro _; rfl) : PT X e (rd g Wx H₀ rlE (tB f)) :=
  (pt_val h he).imp fun σ H Q ⟨W, ρ, S, st, en, h⟩ => step monoE st en h fun x W1 H1 S1 d e1 s1 n1 p1 h1 => by
    obtain ⟨k, ek, h2⟩ := h1.opt
    rw [bV_eq ek] at p1
    exact ⟨k, p1.bl, h2 k W1 H1 Ext.refl s1 rfl⟩
theorem truV {W : Wo} {H : Hp} {S : Sto} (s : g.Sta W H S) {d : D} {v : V} {k : Bool} (h : RepP g.K g.mg W H d v) (e : truS S d = some k) : TruV g.K v H k := by
  have sq : ∀ {ds : List D} {xs : List V}, g.Reps W H ds xs → xs.isEmpty = ds.isEmpty := fun {ds xs} h => by
    cases ds with
    | nil => simp only [Reps] at h; rw [h]; rfl
    | cons d ds =>
      simp only [Reps] at h
      obtain ⟨v, r, rfl, _⟩ := h
      rfl
  have sk : ∀ {ds : List (D × D)} {xs : List (Key × V)}, RepKs g.K g.mg W H ds xs → xs.isEmpty = ds.isEmpty := fun {ds xs} h => by
    cases ds with
    | nil => simp only [RepKs] at h; rw [h]; rfl
    | cons d ds =>
      obtain ⟨k, d⟩ := d
      simp only [RepKs] at h
      obtain ⟨k', v, r, rfl, _⟩ := h
      rfl
  rcases h with h | ⟨p, rfl, hm, h⟩
  · cases d with
    | non =>
      simp only [Rep] at h; subst h; cases e
      exact rfl
    | bl b =>
      simp only [Rep] at h; subst h; cases e
      exact rfl
    | int i =>
      simp only [Rep] at h; subst h; cases e
      exact rfl
    | str x =>
      simp only [Rep] at h
      obtain ⟨rfl, hs⟩ := h
      cases e
      refine ⟨by rw [sizeLine_eq]; simpa [Str.length] using hs.1, ?_⟩
      cases x with
      | nil => rfl
      | cons c r => simp [Str.length]
                    have : ((r.length : Int) + 1 = 0) = False := by simp; omega
                    simp
                    omega
    | tup ds =>
      simp only [Rep] at h
      obtain ⟨a, xs, rfl, ht, hr⟩ := h
      cases e
      refine .inr (.inl ⟨xs, ?_, by rw [sq hr]⟩)
      rcases ht with ⟨_, ht⟩ | ht
      · exact .of ht
      · exact .inr ht
    | lst ds =>
      simp only [Rep] at h
      obtain ⟨a, xs, rfl, ht, hr⟩ := h
      cases e
      exact .inl ⟨xs, .of ht.2, by rw [sq hr]⟩
    | dic ds =>
      simp only [Rep] at h
      obtain ⟨a, xs, rfl, ht, hr⟩ := h
      cases e
      exact .inr (.inr ⟨xs, ht.2, by rw [sk hr]⟩)
    | obj l => cases e
    | fn x => cases e
    | scr ns => cases e
  · cases d with
    | lst ds =>
      obtain ⟨xs, h1, h2⟩ := h
      cases e
      exact .inl ⟨xs, .of h1, by rw [sq h2]⟩
    | dic ds =>
      obtain ⟨xs, h1, h2⟩ := h
      cases e
      exact .inr (.inr ⟨xs, h1, by rw [sk h2]⟩)
    | _ => exact h.elim
theorem d_tT (hK : X.K = g.K) (h : PE X e (rd g Wx H₀ (rlP g) f)) (he : ∀ whole, isTrue e X.env whole = (do let v ← whole; standAt e.pos; holding [v] (truthy v)) := by intro _; rfl) : PT X e (rd g Wx H₀ rlE (tT f)) :=
  (pt_truth h he).imp fun σ H Q ⟨W, ρ, S, st, en, h⟩ => step monoE st en h fun x W1 H1 S1 d e1 s1 n1 p1 h1 => by
    obtain ⟨k, ek, h2⟩ := h1.opt
    exact ⟨k, by rw [hK]; exact truV s1 p1 ek, h2 k W1 H1 Ext.refl s1 rfl⟩
theorem d_tcmp {op : CmpOp} {o : Sto → D → D → Option D} (ho : OpD g X (compareOp op) (rlR g) o) (ha : PE X a (rd g Wx H₀ (rlP g) fa)) (hb : PE X b (rd g Wx H₀ (rlP g) fb)) (hm : behindInMarks op b = false) : PT X (.Compare a [op] [b] pos) (rd g Wx H₀ rlE (tB (e2 o fa fb))) := by
  obtain ⟨r, hr, im⟩ := ho
  refine (pt_cmpR hr ha hb hm).imp fun σ H Q ⟨W, ρ, S, st, en, h⟩ => ?_
  have h : rdp g Wx rlE σ W H (((fa ρ S).bind fun x S1 => (fb ρ S1).bind fun y S2 => opt (o S2 x y) S2).bind fun x S1 => opt (bV x) S1) Q := h
  rw [Res.bind_assoc] at h
  refine step monoE st en h fun x W1 H1 S1 d e1 s1 n1 p1 h1 => ?_
  rw [Res.bind_assoc] at h1
  refine step monoE s1 n1 h1 fun y W2 H2 S2 d2 e2 s2 n2 p2 h2 => ?_
  cases ez : o S2 d d2 with
  | none => rw [ez] at h2; exact h2.elim
  | some z =>
    rw [ez] at h2
    obtain ⟨k, ek, h3⟩ := h2.opt
    refine im W2 H2 S2 d d2 z x y _ s2 (RepP.ext e2 s1 p1) p2 ez fun v W' H' e' s' p' => ?_
    rw [bV_eq ek] at p'
    exact ⟨k, Rep.bl (show g.Rep W' H' (.bl k) v from p'), h3 k W' H' e' s' rfl⟩
theorem d_tnot (h : PT X a (rd g Wx H₀ rlE ta)) : PT X (.UnaryOp .Not a pos) (rd g Wx H₀ rlE (tNot ta)) :=
  (pt_not h).imp fun σ H Q ⟨W, ρ, S, st, en, h⟩ => step monoE st en h fun x W1 H1 S1 d e1 s1 n1 p1 h1 => by
    cases p1
    exact h1 _ W1 H1 Ext.refl s1 rfl
theorem d_and1 (h : PT X a (rd g Wx H₀ rlE ta)) : PW X (.BoolOp .And [a] pos) (rd g Wx H₀ rlE ta) := pw_and1 h
theorem d_or1 (h : PT X a (rd g Wx H₀ rlE ta)) : PW X (.BoolOp .Or [a] pos) (rd g Wx H₀ rlE ta) := pw_or1 h
theorem d_and (ha : PT X a (rd g Wx H₀ rlE ta)) (hb : PW X (.BoolOp .And (b :: rest) pos) (rd g Wx H₀ rlE tb)) : PW X (.BoolOp .And (a :: b :: rest) pos) (rd g Wx H₀ rlE (tAnd ta tb)) :=
  (pw_and ha hb).imp fun σ H Q ⟨W, ρ, S, st, en, h⟩ => step monoE st en h fun x W1 H1 S1 d e1 s1 n1 p1 h1 => by
    cases p1
    cases x with
    | true => exact ⟨W1, ρ, S1, s1, n1, h1⟩
    | false => exact h1 _ W1 H1 Ext.refl s1 rfl
theorem d_or (ha : PT X a (rd g Wx H₀ rlE ta)) (hb : PW X (.BoolOp .Or (b :: rest) pos) (rd g Wx H₀ rlE tb)) : PW X (.BoolOp .Or (a :: b :: rest) pos) (rd g Wx H₀ rlE (tOr ta tb)) :=
  (pw_or ha hb).imp fun σ H Q ⟨W, ρ, S, st, en, h⟩ => step monoE st en h fun x W1 H1 S1 d e1 s1 n1 p1 h1 => by
    cases p1
    cases x with
    | true => exact h1 _ W1 H1 Ext.refl s1 rfl
    | false => exact ⟨W1, ρ, S1, s1, n1, h1⟩
/-! ### and, or, not, if as values -/
theorem d_one {op} (h : PE X a (rd g Wx H₀ P f)) : PE X (.BoolOp op [a] pos) (rd g Wx H₀ P f) := pe_one h
theorem d_andV (hP : Mono P) (hbl : ∀ H W H' b, P H W H' (.bl b) (.bl b)) (ha : PE X a (rd g Wx H₀ (rlP g) fa)) (hb : PE X (.BoolOp .And (b :: rest) pos) (rd g Wx H₀ P fb)) : PE X (.BoolOp .And (a :: b :: rest) pos) (rd g Wx H₀ P (eAnd fa fb)) :=
  (pe_and ha hb).imp fun σ H Q ⟨W, ρ, S, st, en, h⟩ => step hP st en h fun x W1 H1 S1 d e1 s1 n1 p1 h1 => by
    cases ek : bV d with
    | none => rw [ek] at h1; exact h1.elim
    | some k =>
      rw [ek] at h1
      rw [bV_eq ek] at p1
      refine ⟨k, p1.bl, ?_⟩
      cases k with
      | true => exact ⟨W1, ρ, S1, s1, n1, h1⟩
      | false => exact h1 _ W1 H1 Ext.refl s1 (hbl _ _ _ _)
theorem d_orV (hP : Mono P) (hbl : ∀ H W H' b, P H W H' (.bl b) (.bl b)) (ha : PE X a (rd g Wx H₀ (rlP g) fa)) (hb : PE X (.BoolOp .Or (b :: rest) pos) (rd g Wx H₀ P fb)) : PE X (.BoolOp .Or (a :: b :: rest) pos) (rd g Wx H₀ P (eOr fa fb)) :=
  (pe_or ha hb).imp fun σ H Q ⟨W, ρ, S, st, en, h⟩ => step hP st en h fun x W1 H1 S1 d e1 s1 n1 p1 h1 => by
    cases ek : bV d with
    | none => rw [ek] at h1; exact h1.elim
    | some k =>
      rw [ek] at h1
      rw [bV_eq ek] at p1
      refine ⟨k, p1.bl, ?_⟩
      cases k with
      | true => exact h1 _ W1 H1 Ext.refl s1 (hbl _ _ _ _)
      | false => exact ⟨W1, ρ, S1, s1, n1, h1⟩
theorem blR : ∀ H W H' b, rlR g H W H' (.bl b) (.bl b) := fun _ _ _ _ => by simp only [rlR, Rep]
theorem blP : ∀ H W H' b, rlP g H W H' (.bl b) (.bl b) := fun _ _ _ _ => .inl (by simp only [Rep])
theorem d_orT (hK : X.K = g.K) (ha : PE X a (rd g Wx H₀ (rlR g) fa)) (hb : PE X (.BoolOp .Or (b :: rest) pos) (rd g Wx H₀ (rlR g) fb)) : PE X (.BoolOp .Or (a :: b :: rest) pos) (rd g Wx H₀ (rlR g) (eOrT fa fb)) :=
  (pe_orT ha hb).imp fun σ H Q ⟨W, ρ, S, st, en, h⟩ => step monoR st en h fun x W1 H1 S1 d e1 s1 n1 p1 h1 => by
    cases ek : truS S1 d with
    | none => rw [ek] at h1; exact h1.elim
    | some k =>
      rw [ek] at h1
      refine ⟨k, by rw [hK]; exact truV s1 (.inl p1) ek, ?_⟩
      cases k with
      | true => exact h1 _ W1 H1 Ext.refl s1 p1
      | false => exact ⟨W1, ρ, S1, s1, n1, h1⟩
theorem d_not (h : PE X a (rd g Wx H₀ (rlP g) f)) : PE X (.UnaryOp .Not a pos) (rd g Wx H₀ (rlR g) (e1 notS f)) :=
  (pe_not h).imp fun σ H Q ⟨W, ρ, S, st, en, h⟩ => step monoR st en h fun x W1 H1 S1 d e1 s1 n1 p1 h1 => by
    obtain ⟨k, ek, h2⟩ := h1.opt
    cases d with
    | bl b =>
      cases ek
      exact ⟨b, p1.bl, h2 _ W1 H1 Ext.refl s1 (by simp only [rlR, Rep])⟩
    | _ => cases ek
theorem d_if (hP : Mono P) (hc : PT X c (rd g Wx H₀ rlE tc)) (ha : PE X a (rd g Wx H₀ P fa)) (hb : PE X b (rd g Wx H₀ P fb)) : PE X (.IfExp c a b pos) (rd g Wx H₀ P (eIf tc fa fb)) :=
  (pe_ifExp hc ha hb).imp fun σ H Q ⟨W, ρ, S, st, en, h⟩ => step hP st en h fun x W1 H1 S1 d e1 s1 n1 p1 h1 => by
    cases p1
    cases x with
    | true => exact ⟨W1, ρ, S1, s1, n1, h1⟩
    | false => exact ⟨W1, ρ, S1, s1, n1, h1⟩
/-- a op b op' c -/
theorem d_chain {op op' : CmpOp} {o o' : Sto → D → D → Option D} (ho : OpD g X (compareOp op) (rlR g) o) (ho' : OpD g X (compareOp op') (rlR g) o') (ha : PE X a (rd g Wx H₀ (rlP g) fa)) (hb : PE X b (rd g Wx H₀ (rlP g) fb)) (hc : PE X c (rd g Wx H₀ (rlP g) fc))
    (h : ∀ {r r' : R2} {ta tb tc : TE}, OpR X (compareOp op) r → OpR X (compareOp op') r' → PE X a ta → PE X b tb → PE X c tc → PE X (.Compare a [op, op'] [b, c] pos) (tChain r r' ta tb tc)) :
    PE X (.Compare a [op, op'] [b, c] pos) (rd g Wx H₀ (rlR g) (eChn o o' fa fb fc)) := by
  obtain ⟨r, hr, im⟩ := ho
  obtain ⟨r', hr', im'⟩ := ho'
  refine (h hr hr' ha hb hc).imp fun σ H Q ⟨W, ρ, S, st, en, h⟩ => ?_
  refine step monoR st en h fun x W1 H1 S1 d e1 s1 n1 p1 h1 => ?_
  refine step monoR s1 n1 h1 fun y W2 H2 S2 d2 e2 s2 n2 p2 h2 => ?_
  cases ez : o S2 d d2 with
  | none => rw [ez] at h2; exact h2.elim
  | some z =>
    rw [ez] at h2
    cases ek : bV z with
    | none =>
      rw [show (some z).bind bV = bV z from rfl, ek] at h2
      exact h2.elim
    | some k =>
      rw [show (some z).bind bV = bV z from rfl, ek] at h2
      refine im W2 H2 S2 d d2 z x y _ s2 (RepP.ext e2 s1 p1) p2 ez fun v W' H' e' s' p' => ?_
      rw [bV_eq ek] at p'
      refine ⟨k, Rep.bl (show g.Rep W' H' (.bl k) v from p'), ?_⟩
      have h2' := h2.mv monoR e'
      cases k with
      | false => exact h2' _ W' H' Ext.refl s' (by simp only [rlR, Rep])
      | true =>
        refine step monoR s' (n2.ext e' s2) h2' fun u W3 H3 S3 d3 e3 s3 n3 p3 h3 => ?_
        obtain ⟨z2, ez2, h4⟩ := h3.opt
        exact im' W3 H3 S3 d2 d3 z2 y u _ s3 (RepP.ext e3 s' (RepP.ext e' s2 p2)) p3 ez2 h4
end
end DL

set_option Elab.async false
set_option linter.all false
set_option maxRecDepth 100000
set_option maxHeartbeats 2000000
/-! DL, part E: argument lists, displays, statements, targets, loops; a def's promise, its call. -/
namespace DL
open PySem PySem.Spec PyProof.Rows L2 NdefX
/-! ### statements: readings -/
def sdp (g : Gb) (Wx : WX) (W₀ : Wo) (H₀ : Hp) (D : Ends) (W : Wo) (H : Hp) (r : Res Fl) : Prop := match r with
  | .ok (.nx ρ) S' => ∀ σ' W' H', g.Sta W' H' S' → EnvOk g W' H' H₀ ρ σ' → Ext W₀ H₀ W' H' → Lo W H W' H' → D.nx σ' H'
  | .ok (.bk ρ) S' => ∀ σ' W' H', g.Sta W' H' S' → EnvOk g W' H' H₀ ρ σ' → Ext W₀ H₀ W' H' → Lo W H W' H' → D.bk σ' H'
  | .ok (.ct ρ) S' => ∀ σ' W' H', g.Sta W' H' S' → EnvOk g W' H' H₀ ρ σ' → Ext W₀ H₀ W' H' → Lo W H W' H' → D.ct σ' H'
  | .ok (.rt d) S' => ∀ v W' H', g.Sta W' H' S' → Ext W₀ H₀ W' H' → g.Rep W' H' d v → D.rt v H'
  | .exc e S' => ∀ σ' W' H' cls x, g.Sta W' H' S' → Ext W₀ H₀ W' H' → ExcOk g W' H' e cls x → Wx cls x σ' H'
  | .bad => False
def sd (g : Gb) (Wx : WX) (W₀ : Wo) (H₀ : Hp) (f : Sv) : TS := fun D σ H => ∃ W ρ S, g.Sta W H S ∧ EnvOk g W H H₀ ρ σ ∧ Ext W₀ H₀ W H ∧ sdp g Wx W₀ H₀ D W H (f ρ S)
section
variable {g : Gb} {Wx : WX} {W₀ W W' : Wo} {H H' H₀ : Hp} {S S' : Sto} {ρ : DL.Env} {σ : L2.St} {α β γ δ : Type} {P : Rl α β} {P2 : Rl γ δ} {D : Ends}
theorem sdp.mv (e : Lo W H W' H') : ∀ {r : Res Fl}, sdp g Wx W₀ H₀ D W H r → sdp g Wx W₀ H₀ D W' H' r
  | .ok (.nx _) _, h => fun σ' W2 H2 a b c d => h σ' W2 H2 a b c (e.trans d)
  | .ok (.bk _) _, h => fun σ' W2 H2 a b c d => h σ' W2 H2 a b c (e.trans d)
  | .ok (.ct _) _, h => fun σ' W2 H2 a b c d => h σ' W2 H2 a b c (e.trans d)
  | .ok (.rt _) _, h => h
  | .exc _ _, h => h
  | .bad, h => h
theorem sstep {f : DL.Env → Sto → Res α} {k : α → Sto → Res Fl} {Q1 : β → Hp → Prop} (st : g.Sta W H S) (en : EnvOk g W H H₀ ρ σ) (ex : Ext W₀ H₀ W H) (h : sdp g Wx W₀ H₀ D W H ((f ρ S).bind k))
    (c : ∀ v W1 H1 S1 a, Ext W H W1 H1 → g.Sta W1 H1 S1 → EnvOk g W1 H1 H₀ ρ σ → Ext W₀ H₀ W1 H1 → P H W1 H1 a v → sdp g Wx W₀ H₀ D W1 H1 (k a S1) → Q1 v H1) : rd g Wx H₀ P f σ H Q1 := by
  refine ⟨W, ρ, S, st, en, ?_⟩
  revert h
  cases f ρ S with
  | ok a S1 => exact fun h v W1 H1 e1 s1 p => c v W1 H1 S1 a e1 s1 (en.ext e1 st) (ex.trans e1) p (h.mv (e1.lo st))
  | exc x S1 => exact fun h W1 H1 cls y e1 s1 p => h _ W1 H1 cls y s1 (ex.trans e1) p
  | bad => exact fun h => h
theorem sdp.opt {o : Option Fl} (h : sdp g Wx W₀ H₀ D W H (opt o S)) : ∃ a, o = some a ∧ sdp g Wx W₀ H₀ D W H (.ok a S) := by
  cases o with
  | none => exact h.elim
  | some a => exact ⟨a, rfl, h⟩
end
/-! ### arguments, displays -/
def rlN (g : Gb) (n : Nat) : Rl (List D) (List V) := fun _ W H d v => g.Reps W H d v ∧ d.length = n
theorem monoN {g : Gb} {n : Nat} : Mono (rlN g n) := fun _ _ _ _ _ _ _ h => h
section
variable {X : Cx} {g : Gb} {Wx : WX} {W₀ : Wo} {H₀ : Hp} {a e : Expr} {es : List Expr} {f fa : Ev} {fs : Evs} {n : Nat} {pos : Pos}
theorem d_nil : PA X [] (rd g Wx H₀ (rlN g 0) eNil) := pa_nil.imp fun σ H Q ⟨W, ρ, S, st, en, h⟩ => h [] W H Ext.refl st ⟨by simp only [Reps], rfl⟩
theorem d_cons (ha : PE X a (rd g Wx H₀ (rlR g) fa)) (hr : PA X es (rd g Wx H₀ (rlN g n) fs)) (hs : starEach (a :: es) X.env = (false, eval a X.env) :: starEach es X.env := by rfl) : PA X (a :: es) (rd g Wx H₀ (rlN g (n + 1)) (eCons fa fs)) :=
  (pa_cons ha hr hs).imp fun σ H Q ⟨W, ρ, S, st, en, h⟩ => step monoN st en h fun x W1 H1 S1 d e1 s1 n1 p1 h1 => step monoN s1 n1 h1 fun xs W2 H2 S2 ds e2 s2 n2 p2 h2 =>
    h2 _ W2 H2 Ext.refl s2 ⟨by simp only [Reps]; exact ⟨x, xs, rfl, Rep.ext e2 s1 p1, p2.1⟩, by rw [List.length_cons, p2.2]⟩
theorem Reps.len {W : Wo} {H : Hp} : ∀ {ds : List D} {xs : List V}, g.Reps W H ds xs → xs.length = ds.length
  | [], _, h => by simp only [Reps] at h; rw [h]; rfl
  | d :: ds, _, h => by
    simp only [Reps] at h
    obtain ⟨v, r, rfl, _, h⟩ := h
    rw [List.length_cons, List.length_cons, Reps.len h]
theorem newTup {W : Wo} {H : Hp} {S : Sto} (st : g.Sta W H S) {ds : List D} {xs : List V} (h : g.Reps W H ds xs) {p : Addr} (hp : H p = none) :
    Ext W H (W.fix p) (upd H p (.tup xs)) ∧ g.Sta (W.fix p) (upd H p (.tup xs)) S ∧ g.Rep (W.fix p) (upd H p (.tup xs)) (.tup ds) (.ref p) := by
  have e := Ext.fix (W := W) (o := .tup xs) hp
  have hm : p ∉ W.m := fun z => by
    obtain ⟨l, hl⟩ := List.getElem?_of_mem z
    have hl2 : l < S.length := by rw [← st.len]; exact (List.getElem?_eq_some_iff.mp hl).1
    have hc := st.cells l S[l] p (by simp [hl2]) hl
    revert hc
    cases S[l] with
    | lst ds => rintro ⟨xs, z, _⟩; rw [hp] at z; cases z
    | dic ds => rintro ⟨xs, z, _⟩; rw [hp] at z; cases z
    | ins c fs => rintro ⟨C, dx, fv, _, z, _⟩; rw [hp] at z; cases z
  refine ⟨e, (st.new hp).fixAt upd_same trivial hm, ?_⟩
  simp only [Rep]
  exact ⟨p, xs, rfl, .inl ⟨.inr rfl, upd_same⟩, h.ext e st⟩
theorem newLst {W : Wo} {H : Hp} {S : Sto} (st : g.Sta W H S) {ds : List D} {xs : List V} (h : g.Reps W H ds xs) {p : Addr} (hp : H p = none) :
    Ext W H W (upd H p (.lst xs)) ∧ g.Sta W (upd H p (.lst xs)) S ∧ rlF g H W (upd H p (.lst xs)) (.lst ds) (.ref p) := by
  have e := Ext.new (W := W) (o := .lst xs) hp
  have hm : p ∉ W.m := fun z => by
    obtain ⟨l, hl⟩ := List.getElem?_of_mem z
    have hl2 : l < S.length := by rw [← st.len]; exact (List.getElem?_eq_some_iff.mp hl).1
    have hc := st.cells l S[l] p (by simp [hl2]) hl
    revert hc
    cases S[l] with
    | lst ds => rintro ⟨xs, z, _⟩; rw [hp] at z; cases z
    | dic ds => rintro ⟨xs, z, _⟩; rw [hp] at z; cases z
    | ins c fs => rintro ⟨C, dx, fv, _, z, _⟩; rw [hp] at z; cases z
  refine ⟨e, st.new hp, p, rfl, hp, fun r => ?_, hm, xs, upd_same, h.ext e st⟩
  obtain ⟨o, ho, _⟩ := st.fz p r
  rw [hp] at ho; cases ho
theorem d_tup {k : Nat} (h : PA X es (rd g Wx H₀ (rlN g n) fs)) (hn : n ≤ zLine := by decide) : PE X (.Tuple es k pos) (rd g Wx H₀ (rlR g) (eTup fs)) :=
  (pe_tup h).imp fun σ H Q ⟨W, ρ, S, st, en, h⟩ => step monoR st en h fun xs W1 H1 S1 ds e1 s1 n1 p1 h1 => by
    refine ⟨by rw [sizeLine_eq, Reps.len p1.1, p1.2]; exact hn, fun p hp => ?_⟩
    obtain ⟨e, s, r⟩ := newTup s1 p1.1 hp
    exact h1 _ _ _ e s r
theorem d_lst (h : PA X es (rd g Wx H₀ (rlN g n) fs)) (hn : n ≤ zLine := by decide) : PE X (.List es pos) (rd g Wx H₀ (rlF g) (eLst fs)) :=
  (pe_lst h).imp fun σ H Q ⟨W, ρ, S, st, en, h⟩ => step monoF st en h fun xs W1 H1 S1 ds e1 s1 n1 p1 h1 => by
    refine ⟨by rw [sizeLine_eq, Reps.len p1.1, p1.2]; exact hn, fun p hp => ?_⟩
    obtain ⟨e, s, r⟩ := newLst s1 p1.1 hp
    exact h1 _ _ _ e s r
end
/-! ### statements -/
section
variable {X : Cx} {g : Gb} {Wx : WX} {W₀ : Wo} {H₀ : Hp} {st : Stmt} {rest body orelse : List Stmt} {e : Expr} {f : Ev} {t : Tv} {u v : Sv} {pos : Pos}
theorem s_nil : PSs X [] (sd g Wx W₀ H₀ sNil) := pss_nil.imp fun D σ H ⟨W, ρ, S, st, en, ex, h⟩ => h σ W H st en ex Lo.refl
theorem s_one (h : PS X st (sd g Wx W₀ H₀ u)) : PSs X [st] (sd g Wx W₀ H₀ u) := pss_one h
theorem s_cons (h : PS X st (sd g Wx W₀ H₀ u)) (hr : PSs X rest (sd g Wx W₀ H₀ v)) : PSs X (st :: rest) (sd g Wx W₀ H₀ (sSeq u v)) := (pss_cons h hr).imp fun D σ H ⟨W, ρ, S, st, en, ex, h⟩ => by
  refine ⟨W, ρ, S, st, en, ex, ?_⟩
  have h : sdp g Wx W₀ H₀ D W H ((u ρ S).bind fun f S1 => match f with | .nx ρ1 => v ρ1 S1 | f => .ok f S1) := h
  revert h
  cases u ρ S with
  | ok f S1 =>
    cases f with
    | nx ρ1 => exact fun h σ' W' H' s' n' e' l' => ⟨W', ρ1, S1, s', n', e', h.mv l'⟩
    | rt d => exact fun h => h
    | bk ρ1 => exact fun h => h
    | ct ρ1 => exact fun h => h
  | exc x S1 => exact fun h => h
  | bad => exact fun h => h
theorem s_pass : PS X (.Pass pos) (sd g Wx W₀ H₀ sNil) := ps_pass.imp fun D σ H ⟨W, ρ, S, st, en, ex, h⟩ => h σ W H st en ex Lo.refl
theorem s_doc {x j pos pos'} : PS X (.Expr (.Constant (.str x) j pos) pos') (sd g Wx W₀ H₀ sNil) := ps_doc.imp fun D σ H ⟨W, ρ, S, st, en, ex, h⟩ => h σ W H st en ex Lo.refl
theorem s_brk : PS X (.Break pos) (sd g Wx W₀ H₀ sBrk) := ps_break.imp fun D σ H ⟨W, ρ, S, st, en, ex, h⟩ => h σ W H st en ex Lo.refl
theorem s_cont : PS X (.Continue pos) (sd g Wx W₀ H₀ sCont) := ps_continue.imp fun D σ H ⟨W, ρ, S, st, en, ex, h⟩ => h σ W H st en ex Lo.refl
theorem s_expr {P : Rl D V} (he : PE X e (rd g Wx H₀ P f)) (hs : swapsWith e none pos.line X.env = pure false := by rfl) : PS X (.Expr e pos) (sd g Wx W₀ H₀ (sExpr f)) :=
  (ps_expr he hs).imp fun D σ H ⟨W, ρ, S, st, en, ex, h⟩ => sstep st en ex h fun x W1 H1 S1 d e1 s1 n1 x1 p1 h1 => h1 σ W1 H1 s1 n1 x1 Lo.refl
theorem s_ret (he : PE X e (rd g Wx H₀ (rlR g) f)) : PS X (.Return (some e) pos) (sd g Wx W₀ H₀ (sRet f)) :=
  (ps_ret he).imp fun D σ H ⟨W, ρ, S, st, en, ex, h⟩ => sstep st en ex h fun x W1 H1 S1 d e1 s1 n1 x1 p1 h1 => h1 x W1 H1 s1 x1 p1
theorem s_retN : PS X (.Return none pos) (sd g Wx W₀ H₀ (sRet (kc .non))) := ps_retN.imp fun D σ H ⟨W, ρ, S, st, en, ex, h⟩ => h .non W H st ex (by simp only [Rep])
theorem s_if (hc : PT X e (rd g Wx H₀ rlE t)) (ha : PSs X body (sd g Wx W₀ H₀ u)) (hb : PSs X orelse (sd g Wx W₀ H₀ v)) : PS X (.If e body orelse pos) (sd g Wx W₀ H₀ (sIf t u v)) :=
  (ps_if hc ha hb).imp fun D σ H ⟨W, ρ, S, st, en, ex, h⟩ => sstep st en ex h fun x W1 H1 S1 d e1 s1 n1 x1 p1 h1 => by
    cases p1
    cases x with
    | true => exact ⟨W1, ρ, S1, s1, n1, x1, h1⟩
    | false => exact ⟨W1, ρ, S1, s1, n1, x1, h1⟩
theorem s_set {i : Nat} {x : Str} {pos' : Pos} (hN : X.N.Nodup) (hi : X.N[i]? = some x) (hx : Loc X.env.scope x) (he : PE X e (rd g Wx H₀ (rlR g) f)) (hs : swapsWith e (some (.Name x pos')) pos.line X.env = pure false := by rfl)
    (hf : X.fn x = true ∨ X.env.scope.names.lookup x = some .local := by first | exact .inl rfl | exact .inr rfl | assumption) : PS X (.Assign [.Name x pos'] e pos) (sd g Wx W₀ H₀ (sSet i f)) :=
  (ps_set hN hi hx he hs hf).imp fun D σ H ⟨W, ρ, S, st, en, ex, h⟩ => sstep st en ex h fun x W1 H1 S1 d e1 s1 n1 x1 p1 h1 => h1 _ W1 H1 s1 (n1.fz i p1) x1 Lo.refl
theorem s_own {i : Nat} {x : Str} {pos' : Pos} (hN : X.N.Nodup) (hi : X.N[i]? = some x) (hx : Loc X.env.scope x) (he : PE X e (rd g Wx H₀ (rlF g) f)) (hs : swapsWith e (some (.Name x pos')) pos.line X.env = pure false := by rfl)
    (hf : X.fn x = true ∨ X.env.scope.names.lookup x = some .local := by first | exact .inl rfl | exact .inr rfl | assumption) : PS X (.Assign [.Name x pos'] e pos) (sd g Wx W₀ H₀ (sOwn i f)) :=
  (ps_set hN hi hx he hs hf).imp fun D σ H ⟨W, ρ, S, st, en, ex, h⟩ => sstep st en ex h fun x W1 H1 S1 d e1 s1 n1 x1 p1 h1 => by
    obtain ⟨p, rfl, h2, h3, h4, h5⟩ := p1
    refine h1 _ W1 H1 s1 (n1.set i ⟨p, rfl, ex.live _ h2, h3, h4, h5⟩ fun d' _ j e q hj hr hv hs' => ?_) x1 Lo.refl
    have hpq : p = q := by
      have := Option.some.inj hv
      exact V.ref.inj this
    subst hpq
    obtain ⟨ov, ho, hk⟩ := en.get hr
    rw [hs'] at ho; cases ho
    obtain ⟨p', hp', _, _, _, ha⟩ := hk
    have hpp : p = p' := V.ref.inj (Option.some.inj hp')
    subst hpp
    obtain ⟨o, ho, _⟩ := ha.live
    rw [h2] at ho; cases ho
/-- a list of the frame's own is fixed from now on -/
theorem frzOk {W : Wo} {H : Hp} {S : Sto} {ρ : DL.Env} {σ : L2.St} (st : g.Sta W H S) (en : EnvOk g W H H₀ ρ σ) (ex : Ext W₀ H₀ W H) (i : Nat) :
    ∃ W', g.Sta W' H S ∧ EnvOk g W' H H₀ (frz i ρ) σ ∧ Ext W₀ H₀ W' H ∧ Lo W H W' H := by
  unfold frz
  cases e : ρ[i]? with
  | none => exact ⟨W, st, en, ex, Lo.refl⟩
  | some x =>
    cases x with
    | ow d =>
      obtain ⟨ov, h1, p, rfl, h2, h3, h4, h5⟩ := en.get e
      obtain ⟨o, ho, hz⟩ := h5.live
      have lo : Lo W H (W.fix p) H := ⟨fun _ h => .inl h, ⟨[], by simp [Wo.fix]⟩, fun _ _ _ h => h⟩
      refine ⟨W.fix p, st.fixAt ho hz h4, ?_, ex.fixAt H₀ h2, lo⟩
      have hlen : i < ρ.length := (List.getElem?_eq_some_iff.mp e).1
      refine ⟨by rw [List.length_set, en.len], fun j s ov hj hs => ?_, fun j k d1 d2 q hjk hj hk hs1 hs2 => ?_⟩
      · rw [getElem?_set'] at hj
        by_cases hc : i = j ∧ j < ρ.length
        · rw [if_pos hc] at hj
          cases hj
          rw [← hc.1, h1] at hs
          cases hs
          exact ⟨.ref p, rfl, fix_rep h5⟩
        · rw [if_neg hc] at hj
          have hij : i ≠ j := fun z => hc ⟨z, by rw [← z]; exact hlen⟩
          have hk := en.at_ j s ov hj hs
          cases s with
          | un => trivial
          | fz d' =>
            obtain ⟨v, hv, hr⟩ := hk
            exact ⟨v, hv, Rep.lo lo hr⟩
          | ow d' =>
            obtain ⟨q, hq, q1, q2, q3, q4⟩ := hk
            refine ⟨q, hq, q1, fun z => ?_, q3, ?_⟩
            · rcases z with z | z
              · exact q2 z
              · subst z; subst hq
                exact en.own i j d d' q hij e hj h1 hs
            · cases d' with
              | lst ds => obtain ⟨xs, y1, y2⟩ := q4; exact ⟨xs, y1, y2.lo lo⟩
              | dic ds => obtain ⟨xs, y1, y2⟩ := q4; exact ⟨xs, y1, y2.lo lo⟩
              | _ => exact q4.elim
          | cl G =>
            obtain ⟨v, hv, hc⟩ := hk
            exact ⟨v, hv, hc.fu ⟨lo, fun _ _ h _ => h⟩⟩
          | ex x =>
            obtain ⟨v, hv, a, cls, y, y1, y2, C, y3, y4, y5⟩ := hk
            refine ⟨v, hv, a, cls, y, y1, y2, C, y3, y4, ?_⟩
            rcases y5 with y5 | ⟨p2, fv, y5, y6, y7⟩
            · exact .inl y5
            · exact .inr ⟨p2, fv, y5, y6, y7.lo lo⟩
      · rw [getElem?_set'] at hj hk
        by_cases hc : i = j ∧ j < ρ.length
        · rw [if_pos hc] at hj; cases hj
        · rw [if_neg hc] at hj
          by_cases hc2 : i = k ∧ k < ρ.length
          · rw [if_pos hc2] at hk; cases hk
          · rw [if_neg hc2] at hk
            exact en.own j k d1 d2 q hjk hj hk hs1 hs2
    | _ => exact ⟨W, st, en, ex, Lo.refl⟩
theorem s_frz (i : Nat) {st : Stmt} (h : PS X st (sd g Wx W₀ H₀ u)) : PS X st (sd g Wx W₀ H₀ (sFrz i u)) := h.imp fun D σ H ⟨W, ρ, S, st, en, ex, h⟩ => by
  obtain ⟨W', s', n', x', l'⟩ := frzOk st en ex i
  exact ⟨W', frz i ρ, S, s', n', x', sdp.mv l' h⟩
end
end DL

set_option Elab.async false
set_option linter.all false
set_option maxRecDepth 100000
set_option maxHeartbeats 2000000
/-! DL, part F: targets, loops; a def's promise and its call. -/
namespace DL
open PySem PySem.Spec PyProof.Rows L2 NdefX
/-! ### targets -/
def gd (g : Gb) (H₀ : Hp) (t : Tg) : TG := fun v σ H Q => ∃ W ρ S d ρ', g.Sta W H S ∧ EnvOk g W H H₀ ρ σ ∧ g.Rep W H d v ∧ t.put d ρ = some ρ' ∧
  ∀ σ', EnvOk g W H H₀ ρ' σ' → (∀ i, i ∉ t.ix → σ'[i]? = σ[i]?) → Q σ' H
def gds (g : Gb) (H₀ : Hp) (ts : List Tg) : TGs := fun vs σ H Q => ∃ W ρ S ds ρ', g.Sta W H S ∧ EnvOk g W H H₀ ρ σ ∧ g.Reps W H ds vs ∧ Tg.puts ts ds ρ = some ρ' ∧
  ∀ σ', EnvOk g W H H₀ ρ' σ' → (∀ i, i ∉ Tg.ixs ts → σ'[i]? = σ[i]?) → Q σ' H
section
variable {X : Cx} {g : Gb} {H₀ : Hp} {pos : Pos} {e : Expr} {es : List Expr} {t : Tg} {ts : List Tg}
theorem _root_.L2.PG.imp {t t' : TG} (h : PG X e t) (k : ∀ v σ H Q, t' v σ H Q → t v σ H Q) : PG X e t' := ⟨fun pins s σ H v u Q I r z => h.run pins s σ H v u Q I r (k _ _ _ _ z)⟩
theorem _root_.L2.PGs.imp {t t' : TGs} (h : PGs X es t) (k : ∀ v σ H Q, t' v σ H Q → t v σ H Q) : PGs X es t' := ⟨fun pins s σ H v u Q I r z => h.run pins s σ H v u Q I r (k _ _ _ _ z)⟩
theorem g_nm {i : Nat} {x : Str} (hN : X.N.Nodup) (hi : X.N[i]? = some x) (hx : Loc X.env.scope x) (hf : X.fn x = true ∨ X.env.scope.names.lookup x = some .local := by first | exact .inl rfl | exact .inr rfl | assumption) : PG X (.Name x pos) (gd g H₀ (.nm i)) :=
  (pg_name hN hi hx hf).imp fun v σ H Q ⟨W, ρ, S, d, ρ', st, en, r, hp, k⟩ => by
    simp only [Tg.put, Option.some.injEq] at hp
    subst hp
    exact k _ (en.fz i r) fun j hj => by
      rw [getElem?_set', if_neg]
      intro z
      simp [Tg.ix] at hj
      exact hj z.1.symm
theorem gs_nil : PGs X [] (gds g H₀ []) := pgs_nil.imp fun vs σ H Q ⟨W, ρ, S, ds, ρ', st, en, r, hp, k⟩ => by
  cases ds with
  | nil =>
    simp only [Tg.puts, Option.some.injEq] at hp
    subst hp
    simp only [Reps] at r
    exact ⟨r, k σ en fun _ _ => rfl⟩
  | cons d ds => simp [Tg.puts] at hp
theorem gs_cons (h1 : PG X e (gd g H₀ t)) (h2 : PGs X es (gds g H₀ ts)) (hs : (assignEach (e :: es) X.env).map (·.2) = assign e X.env :: (assignEach es X.env).map (·.2) := by rfl) : PGs X (e :: es) (gds g H₀ (t :: ts)) :=
  (pgs_cons h1 h2 hs).imp fun vs σ H Q ⟨W, ρ, S, ds, ρ', st, en, r, hp, k⟩ => by
    cases ds with
    | nil => simp [Tg.puts] at hp
    | cons d ds =>
      simp only [Reps] at r
      obtain ⟨v, vr, rfl, r1, r2⟩ := r
      simp only [Tg.puts] at hp
      cases e1 : t.put d ρ with
      | none => rw [e1] at hp; cases hp
      | some ρ1 =>
        rw [e1] at hp
        refine ⟨v, vr, rfl, W, ρ, S, d, ρ1, st, en, r1, e1, fun σ1 n1 k1 => ?_⟩
        refine ⟨W, ρ1, S, ds, ρ', st, n1, r2, hp, fun σ2 n2 k2 => k σ2 n2 fun i hi => ?_⟩
        rw [Tg.ixs, List.mem_append, not_or] at hi
        rw [k2 i hi.2, k1 i hi.1]
theorem g_tp {k n : Nat} (hK : X.K = g.K) (hc : X.calm = true) (h : PGs X es (gds g H₀ ts)) (hl : ts.length = n) (hn : (assignEach es X.env).length = n := by rfl) (hst : (assignEach es X.env).findIdx? (·.1) = none := by rfl) : PG X (.Tuple es k pos) (gd g H₀ (.tp ts)) :=
  (pg_tup hc h hn hst).imp fun v σ H Q ⟨W, ρ, S, d, ρ', st, en, r, hp, k⟩ => by
    cases d with
    | tup ds =>
      simp only [Rep] at r
      obtain ⟨a, xs, rfl, ht, hr⟩ := r
      simp only [Tg.put] at hp
      have hlen : ∀ {ts : List Tg} {ds : List D} {ρ ρ' : DL.Env}, Tg.puts ts ds ρ = some ρ' → ds.length = ts.length := by
        intro ts
        induction ts with
        | nil => intro ds ρ ρ' h; cases ds with
          | nil => rfl
          | cons d ds => simp [Tg.puts] at h
        | cons t ts ih => intro ds ρ ρ' h; cases ds with
          | nil => simp [Tg.puts] at h
          | cons d ds =>
            simp only [Tg.puts] at h
            cases e1 : t.put d ρ with
            | none => rw [e1] at h; cases h
            | some ρ1 =>
              rw [e1] at h
              rw [List.length_cons, List.length_cons, ih h]
      refine ⟨a, xs, rfl, ?_, by rw [Reps.len hr, hlen hp, hl], W, ρ, S, ds, ρ', st, en, hr, hp, fun σ' n' k' => k σ' n' fun i hi => k' i (by rw [Tg.ix] at hi; exact hi)⟩
      rw [hK]
      rcases ht with ⟨_, ht⟩ | ht
      · exact .of ht
      · exact .inr ht
    | _ => simp [Tg.put] at hp
end
/-! ### what is walked -/
/-- a walk over ds -/
def rlI (g : Gb) : Rl (List D) L2.It := fun _ W H ds J => ∃ (n : Nat) (G : Hp → Prop) (Y : Nat → Hp → V → Hp → Prop), Walk J n G Y ∧ ds.length = n ∧ (∀ W' H', Lo W H W' H' → G H') ∧
  ∀ i x W2 H2 S2 H', i < n → Lo W H W2 H2 → g.Sta W2 H2 S2 → Y i H2 x H' → ∃ W' d, Ext W2 H2 W' H' ∧ g.Sta W' H' S2 ∧ ds[i]? = some d ∧ g.Rep W' H' d x
theorem monoI {g : Gb} : Mono (rlI g) := fun _ _ _ _ _ _ _ h => h
section
variable {X : Cx} {g : Gb} {Wx : WX} {W₀ : Wo} {H₀ : Hp} {st : Stmt} {rest body orelse : List Stmt} {e iter tg : Expr} {f : Ev} {t : Tg} {u : Sv} {pos : Pos} {it : DL.It} {c : Tv}
theorem _root_.L2.PI.imp {t t' : TI} (h : PI X tg iter t) (k : ∀ σ H R, t' σ H R → t σ H R) : PI X tg iter t' := ⟨fun pins s σ H R I z => h.run pins s σ H R I (k _ _ _ z)⟩
theorem s_for (hp : PassesOwn (model X.prog X.w) X.A X.env X.xe) (hc : X.calm = true) (hi : PI X tg iter (rd g Wx H₀ (rlI g) it)) (hg : PG X tg (gd g H₀ t)) (hb : PSs X body (sd g Wx W₀ H₀ u))
    (hs : ∀ x, foldedSetIterable iter X.env x = pure x := by intro _; rfl) : PS X (.For tg iter body [] pos) (sd g Wx W₀ H₀ (sFor t it u)) :=
  (ps_for hp hc hi hg hb hs).imp fun D σ H ⟨W, ρ, S, st, en, ex, h⟩ => sstep st en ex h fun J W1 H1 S1 ds e1 s1 n1 x1 p1 h1 => by
    obtain ⟨n, G, Y, wk, hn, hG, hY⟩ := p1
    refine for_it wk (fun i σ' H' => ∃ W' ρ' S', g.Sta W' H' S' ∧ EnvOk g W' H' H₀ ρ' σ' ∧ Ext W₀ H₀ W' H' ∧ Lo W1 H1 W' H' ∧ sdp g Wx W₀ H₀ D W' H' (forGo t u (ds.drop i) ρ' S')) ?_ ?_ ?_ ?_
    · exact ⟨W1, ρ, S1, s1, n1, x1, Lo.refl, h1⟩
    · rintro i σ' H' _ ⟨W', ρ', S', _, _, _, l, _⟩
      exact hG W' H' l
    · rintro i x σ' H2 H' hi ⟨W2, ρ2, S2, s2, n2, x2, l2, h2⟩ hy
      obtain ⟨W', d, e', s', hd, r'⟩ := hY i x W2 H2 S2 H' hi l2 s2 hy
      have hdr : ds.drop i = d :: ds.drop (i + 1) := by
        obtain ⟨hlt, hd2⟩ := List.getElem?_eq_some_iff.mp hd
        rw [List.drop_eq_getElem_cons hlt, hd2]
      rw [hdr, forGo] at h2
      cases ep : t.put d ρ2 with
      | none => rw [ep] at h2; exact h2.elim
      | some ρ3 =>
        rw [ep] at h2
        have n' := n2.ext e' s2
        refine ⟨W', ρ2, S2, d, ρ3, s', n', r', ep, fun σ3 n3 _ => ?_⟩
        refine ⟨W', ρ3, S2, s', n3, x2.trans e', ?_⟩
        have h3 : sdp g Wx W₀ H₀ D W2 H2 ((u ρ3 S2).bind fun f S3 => match f with
          | .nx ρ2 => forGo t u (ds.drop (i + 1)) ρ2 S3
          | .ct ρ2 => forGo t u (ds.drop (i + 1)) ρ2 S3
          | .bk ρ2 => .ok (.nx ρ2) S3
          | .rt d => .ok (.rt d) S3) := h2
        have h4 := h3.mv (e'.lo s2)
        have lo' : Lo W1 H1 W' H' := l2.trans (e'.lo s2)
        revert h4
        cases u ρ3 S2 with
        | ok f S3 =>
          cases f with
          | nx ρ4 => exact fun h4 σ4 W4 H4 s4 n4 x4 l4 => ⟨W4, ρ4, S3, s4, n4, x4, lo'.trans l4, h4.mv l4⟩
          | ct ρ4 => exact fun h4 σ4 W4 H4 s4 n4 x4 l4 => ⟨W4, ρ4, S3, s4, n4, x4, lo'.trans l4, h4.mv l4⟩
          | bk ρ4 => exact fun h4 => h4
          | rt d => exact fun h4 => h4
        | exc x S1 => exact fun h => h
        | bad => exact fun h => h
    · rintro σ' H' ⟨W', ρ', S', s', n', x', l', h'⟩
      rw [← hn, List.drop_length, forGo] at h'
      exact h' σ' W' H' s' n' x' Lo.refl
theorem s_while {tt : Tv} (m : Nat) (hp : PassesOwn (model X.prog X.w) X.A X.env X.xe) (hc : PT X e (rd g Wx H₀ rlE tt)) (hb : PSs X body (sd g Wx W₀ H₀ u)) : PS X (.While e body [] pos) (sd g Wx W₀ H₀ (sWhile m tt u)) :=
  (ps_while hp hc hb).imp fun D σ H ⟨W, ρ, S, st, en, ex, h⟩ => by
    refine ⟨fun k σ' H' => ∃ W' ρ' S', g.Sta W' H' S' ∧ EnvOk g W' H' H₀ ρ' σ' ∧ Ext W₀ H₀ W' H' ∧ Lo W H W' H' ∧ sdp g Wx W₀ H₀ D W' H' (whileGo tt u k ρ' S'), ⟨m, W, ρ, S, st, en, ex, Lo.refl, h⟩, ?_⟩
    rintro k σ' H' ⟨W', ρ', S', s', n', x', l', h'⟩
    cases k with
    | zero => exact h'.elim
    | succ k =>
      rw [whileGo] at h'
      refine sstep s' n' x' h' fun b W1 H1 S1 d e1 s1 n1 x1 p1 h1 => ?_
      cases p1
      cases b with
      | false => exact h1 σ' W1 H1 s1 n1 x1 Lo.refl
      | true =>
        have lo1 : Lo W H W1 H1 := l'.trans (e1.lo s')
        refine ⟨fun σ2 H2 => ∃ W2 ρ2 S2, g.Sta W2 H2 S2 ∧ EnvOk g W2 H2 H₀ ρ2 σ2 ∧ Ext W₀ H₀ W2 H2 ∧ Lo W H W2 H2 ∧ sdp g Wx W₀ H₀ D W2 H2 (whileGo tt u k ρ2 S2), fun σ2 H2 h => ⟨k, Nat.lt_succ_self k, h⟩, W1, ρ', S1, s1, n1, x1, ?_⟩
        have h2 : sdp g Wx W₀ H₀ D W1 H1 ((u ρ' S1).bind fun f S2 => match f with
          | .nx ρ2 => whileGo tt u k ρ2 S2
          | .ct ρ2 => whileGo tt u k ρ2 S2
          | .bk ρ2 => .ok (.nx ρ2) S2
          | .rt d => .ok (.rt d) S2) := h1
        revert h2
        cases u ρ' S1 with
        | ok f S3 =>
          cases f with
          | nx ρ4 => exact fun h4 σ4 W4 H4 s4 n4 x4 l4 => ⟨W4, ρ4, S3, s4, n4, x4, lo1.trans l4, h4.mv l4⟩
          | ct ρ4 => exact fun h4 σ4 W4 H4 s4 n4 x4 l4 => ⟨W4, ρ4, S3, s4, n4, x4, lo1.trans l4, h4.mv l4⟩
          | bk ρ4 => exact fun h4 => h4
          | rt d => exact fun h4 => h4
        | exc x S1 => exact fun h => h
        | bad => exact fun h => h
/-- t = e, t no plain name -/
theorem s_tg (he : PE X e (rd g Wx H₀ (rlR g) f)) (hg : PG X tg (gd g H₀ t)) (hs : swapsWithSole [tg] e pos.line X.env = pure false := by rfl) (hw : swappedStores [tg] e X.env = pure none := by rfl)
    (h1 : (assignEach [tg] X.env).map (·.2) = [assign tg X.env] := by rfl) : PS X (.Assign [tg] e pos) (sd g Wx W₀ H₀ (sTg t f)) :=
  (ps_asg he hg hs hw h1).imp fun D σ H ⟨W, ρ, S, st, en, ex, h⟩ => sstep st en ex h fun x W1 H1 S1 d e1 s1 n1 x1 p1 h1 => by
    obtain ⟨fl, ef, h2⟩ := h1.opt
    cases ep : t.put d ρ with
    | none => rw [ep] at ef; cases ef
    | some ρ1 =>
      rw [ep] at ef
      cases ef
      exact ⟨W1, ρ, S1, d, ρ1, s1, n1, p1, ep, fun σ' n' _ => h2 σ' W1 H1 s1 n' x1 Lo.refl⟩
end
/-! ### a def's promise -/
def ArgsOk (g : Gb) (W : Wo) (H : Hp) : List Slot → List V → Prop
  | [], vs => vs = []
  | .fz d :: ss, vs => ∃ v r, vs = v :: r ∧ g.Rep W H d v ∧ ArgsOk g W H ss r
  | .cl G :: ss, vs => ∃ v r, vs = v :: r ∧ CloOk g W H G v ∧ ArgsOk g W H ss r
  | _ :: _, _ => False
def spF (g : Gb) (n : Nat) (M : List Slot → Sto → Res D) : Sp := fun vs H Q E => ∃ W S ss, g.Sta W H S ∧ ArgsOk g W H ss vs ∧ ss.length = n ∧ match M ss S with
  | .ok d S' => ∀ v W' H', Ext W H W' H' → g.Sta W' H' S' → g.Rep W' H' d v → Q v H'
  | .exc e S' => ∀ W' H' cls x, Ext W H W' H' → g.Sta W' H' S' → ExcOk g W' H' e cls x → E cls x H'
  | .bad => False
section
variable {g : Gb} {W : Wo} {H : Hp}
theorem ArgsOk.len : ∀ {ss : List Slot} {vs : List V}, ArgsOk g W H ss vs → vs.length = ss.length
  | [], _, h => by rw [show _ = [] from h]; rfl
  | .fz d :: ss, _, h => by
    obtain ⟨v, r, rfl, _, h⟩ := h
    rw [List.length_cons, List.length_cons, ArgsOk.len h]
  | .cl d :: ss, _, h => by
    obtain ⟨v, r, rfl, _, h⟩ := h
    rw [List.length_cons, List.length_cons, ArgsOk.len h]
theorem ArgsOk.noOw {d : D} : ∀ {ss : List Slot} {vs : List V}, ArgsOk g W H ss vs → Slot.ow d ∉ ss
  | [], _, _ => by simp
  | .fz _ :: ss, _, ⟨_, _, _, _, h⟩ => fun z => by
    rcases List.mem_cons.mp z with z | z
    · cases z
    · exact ArgsOk.noOw h z
  | .cl _ :: ss, _, ⟨_, _, _, _, h⟩ => fun z => by
    rcases List.mem_cons.mp z with z | z
    · cases z
    · exact ArgsOk.noOw h z
theorem ArgsOk.env (H₀ : Hp) : ∀ {ss : List Slot} {vs : List V} {m : Nat}, ArgsOk g W H ss vs → EnvOk g W H H₀ (ss ++ List.replicate m .un) (vs.map some ++ List.replicate m none)
  | ss, vs, m, h => by
    refine ⟨by simp [h.len], ?_, ?_⟩
    · revert vs
      induction ss with
      | nil =>
        intro vs h i s ov h1 h2
        rw [show vs = [] from h] at h2
        simp only [List.nil_append] at h1
        rw [List.getElem?_replicate] at h1
        split at h1
        · cases h1; trivial
        · cases h1
      | cons x ss ih =>
        intro vs h i s ov h1 h2
        cases x with
        | fz d =>
          obtain ⟨v, r, rfl, hr, h⟩ := h
          cases i with
          | zero =>
            simp at h1 h2
            subst h1 h2
            exact ⟨v, rfl, hr⟩
          | succ i => exact ih _ h i s ov (by simpa using h1) (by simpa using h2)
        | cl d =>
          obtain ⟨v, r, rfl, hr, h⟩ := h
          cases i with
          | zero =>
            simp at h1 h2
            subst h1 h2
            exact ⟨v, rfl, hr⟩
          | succ i => exact ih _ h i s ov (by simpa using h1) (by simpa using h2)
        | _ => exact h.elim
    · intro i j d e p _ h1 _ _ _
      have hm := List.mem_of_getElem? h1
      rw [List.mem_append] at hm
      rcases hm with hm | hm
      · exact ArgsOk.noOw h hm
      · have := List.eq_of_mem_replicate hm
        cases this
theorem ArgsOk.of : ∀ {ds : List D} {vs : List V}, g.Reps W H ds vs → ArgsOk g W H (ds.map .fz) vs
  | [], _, h => by simp only [Reps] at h; exact h
  | d :: ds, _, h => by
    simp only [Reps] at h
    obtain ⟨v, r, rfl, hr, h⟩ := h
    exact ⟨v, r, rfl, hr, ArgsOk.of h⟩
end
/-- a def of the text: its frame, its body -/
def fnM (m : Nat) (b : Sv) : List Slot → Sto → Res D := fun ss S => fnD b (ss ++ List.replicate m .un) S
theorem fn_okD {P : Program} {w : World} {K : PySem.W.Frag} {mg : Str → Option Value} {base : Heap} {g : Gb} {x qual : Str} {st : Stmt} {f : Addr} {fd : FuncData} {N ps : List Str} {k n m : Nat} {b : Sv} (F : L2.Fun K x qual st f fd) (Sc : FnScope N ps (defScope st))
    (hn : ps.length = n) (hm : N.length - n = m)
    (hbody : ∀ (cdv : Value) (A : Around) (outer : List PySem.Env) (s : Shared) (H : Hp) (E : XK) (W : Wo), Room k (A.deeper (envOfC qual (defScope st) s.heap.objs.size f cdv)) →
      PSs (cxOf (L2.CX P w) P w K mg base N qual (defScope st) f cdv A outer s H E) (defBody st) (sd g (fun cls d _ H' => E cls d H') W H b)) :
    FnOk P w K mg base (L2.CX P w) (k + 1) f fd ps (spF g n (fnM m b)) := by
  refine F.okX Sc (fun vs H Q E ⟨W, S, ss, st, ha, hl, _⟩ => by rw [ha.len, hl, hn]) fun cdv A outer s H vs Q E hr ⟨W, S, ss, st, ha, hl, h⟩ => ⟨_, hbody cdv A outer s H E W hr, W, ss ++ List.replicate m .un, S, st, ?_, Ext.refl, ?_⟩
  · have : L2.start N vs = vs.map some ++ List.replicate m none := by
      unfold L2.start
      rw [ha.len, hl, hm]
    rw [this]
    exact ha.env H
  · revert h
    show (match (b (ss ++ List.replicate m .un) S).bind fun f S1 => opt (fin f) S1 with
      | .ok d S' => _
      | .exc e S' => _
      | .bad => False) → _
    cases b (ss ++ List.replicate m .un) S with
    | ok fl S1 =>
      cases fl with
      | nx ρ => exact fun h σ' W' H' s' n' e' _ => h .non W' H' e' s' (by simp only [Rep])
      | rt d => exact fun h v W' H' s' e' r' => h v W' H' e' s' r'
      | bk ρ => exact fun h => h.elim
      | ct ρ => exact fun h => h.elim
    | exc x S1 => exact fun h σ' W' H' cls y s' e' p' => h W' H' cls y e' s' p'
    | bad => exact fun h => h.elim
/-! ### f(e, ..) -/
section
variable {X : Cx} {g : Gb} {Wx : WX} {H₀ : Hp} {k n : Nat} {f : Addr} {fd : FuncData} {ps : List Str} {M : List Slot → Sto → Res D} {x : Str} {p pos : Pos} {e : Expr} {es : List Expr} {fs : Evs}
theorem d_call (tk : Takes X Wx) (F : FnOk X.prog X.w X.K X.mg X.base (L2.CX X.prog X.w) k f fd ps (spF g n M)) (hr : Room k X.A) (hg : Gl X x) (hm : X.mg x = some (.ref f)) (hk : PySem.W.keepIn X.K (.ref f) = true) (hb : Binds X.K fd ps [])
    (ha : PA X (e :: es) (rd g Wx H₀ (rlN g n) fs)) (hdb : (x == ("__debug__" : Str)) = false := by decide) (he : starEach (e :: es) X.env = (false, eval e X.env) :: starEach es X.env := by rfl) (hpl : (backTo pos (starEach es X.env)).any (·.1) = false := by rfl) :
    PE X (.Call (.Name x p) (e :: es) [] pos) (rd g Wx H₀ (rlR g) (eCall M fs)) :=
  (pe_callS F hr hg hm hk hb (fun σ => passAt tk σ) ha hdb he hpl).imp fun σ H Q ⟨W, ρ, S, st, en, h⟩ => step monoR st en h fun xs W1 H1 S1 ds e1 s1 n1 p1 h1 => by
    refine ⟨W1, S1, ds.map .fz, s1, .of p1.1, by rw [List.length_map, p1.2], ?_⟩
    revert h1
    cases M (ds.map .fz) S1 with
    | ok d S' => exact fun h => h
    | exc x S' => exact fun h => h
    | bad => exact fun h => h
end
end DL

set_option Elab.async false
set_option linter.all false
set_option maxRecDepth 100000
set_option maxHeartbeats 2000000
/-! DL, part G: operators. -/
namespace DL
open PySem PySem.Spec PyProof.Rows L2 NdefX
/-! ### data as the library has them -/
mutual
def toPy : D → PyData
  | .non => .none
  | .bl b => .bool b
  | .int i => .int i
  | .str x => .str ⟨x.toArray⟩
  | .tup ds => .tuple (toPys ds)
  | .lst ds => .list (toPys ds)
  | _ => .none
def toPys : List D → List PyData
  | [] => []
  | d :: ds => toPy d :: toPys ds
end
theorem toPys_map : ∀ ds : List D, toPys ds = ds.map toPy
  | [] => by simp [toPys]
  | d :: ds => by simp [toPys, toPys_map ds]
theorem py_tup {n : Nat} {ds : List D} (h : py n (.tup ds) = true) : ∃ m, n = m + 1 ∧ ds.all (py m) = true := by
  cases n with
  | zero => simp [py] at h
  | succ m => exact ⟨m, rfl, by simpa [py] using h⟩
theorem py_lst {n : Nat} {ds : List D} (h : py n (.lst ds) = true) : ∃ m, n = m + 1 ∧ ds.all (py m) = true := by
  cases n with
  | zero => simp [py] at h
  | succ m => exact ⟨m, rfl, by simpa [py] using h⟩
theorem eqv_str (x y : List Nat) : (x == y) = ((⟨x.toArray⟩ : Str) == ⟨y.toArray⟩) := by
  by_cases h : x = y
  · subst h; simp
  · have h2 : ¬ ((⟨x.toArray⟩ : Str) = ⟨y.toArray⟩) := fun z => h (by
      have := congrArg (fun s : Str => s.cps.toList) z
      simpa using this)
    rw [beq_eq_false_iff_ne.mpr h, beq_eq_false_iff_ne.mpr h2]
mutual
theorem eqv_py : ∀ {n m : Nat} {x y : D}, py n x = true → py m y = true → eqv x y = PyData.eqv (toPy x) (toPy y)
  | n, m, .non, y, h1, h2 => by cases y <;> simp_all [eqv, toPy, PyData.eqv, py]
  | n, m, .bl b, y, h1, h2 => by cases y <;> simp_all [eqv, toPy, PyData.eqv, py]
  | n, m, .int i, y, h1, h2 => by cases y <;> simp_all [eqv, toPy, PyData.eqv, py]
  | n, m, .str x, y, h1, h2 => by
    cases y with
    | str z => simp only [eqv, toPy, PyData.eqv]; exact eqv_str x z
    | _ => simp_all [eqv, toPy, PyData.eqv, py]
  | n, m, .tup xs, y, h1, h2 => by
    cases y with
    | tup ys =>
      obtain ⟨n', _, h1⟩ := py_tup h1
      obtain ⟨m', _, h2⟩ := py_tup h2
      simp only [eqv, toPy, PyData.eqv]
      exact eqvs_py h1 h2
    | _ => simp_all [eqv, toPy, PyData.eqv, py]
  | n, m, .lst xs, y, h1, h2 => by
    cases y with
    | lst ys =>
      obtain ⟨n', _, h1⟩ := py_lst h1
      obtain ⟨m', _, h2⟩ := py_lst h2
      simp only [eqv, toPy, PyData.eqv]
      exact eqvs_py h1 h2
    | _ => simp_all [eqv, toPy, PyData.eqv, py]
  | n, m, .dic _, y, h1, h2 => by simp [py] at h1
  | n, m, .obj _, y, h1, h2 => by simp [py] at h1
  | n, m, .fn _, y, h1, h2 => by simp [py] at h1
  | n, m, .scr _, y, h1, h2 => by simp [py] at h1
theorem eqvs_py : ∀ {n m : Nat} {xs ys : List D}, xs.all (py n) = true → ys.all (py m) = true → eqvs xs ys = PyData.eqvAll (toPys xs) (toPys ys)
  | n, m, [], ys, h1, h2 => by cases ys <;> simp [eqvs, toPys, PyData.eqvAll]
  | n, m, x :: xs, [], h1, h2 => by simp [eqvs, toPys, PyData.eqvAll]
  | n, m, x :: xs, y :: ys, h1, h2 => by
    simp only [List.all_cons, Bool.and_eq_true] at h1 h2
    simp only [eqvs, toPys, PyData.eqvAll]
    rw [eqv_py h1.1 h2.1, eqvs_py h1.2 h2.2]
end
mutual
theorem alike_py : ∀ {x y : D}, alike x y = true → PySem.W.alike (toPy x) (toPy y) = true
  | .non, y, h => by cases y <;> simp_all [alike, toPy, PySem.W.alike]
  | .bl b, y, h => by cases y <;> simp_all [alike, toPy, PySem.W.alike]
  | .int i, y, h => by cases y <;> simp_all [alike, toPy, PySem.W.alike]
  | .str x, y, h => by cases y <;> simp_all [alike, toPy, PySem.W.alike]
  | .tup xs, y, h => by
    cases y with
    | tup ys => simp only [alike, toPy, PySem.W.alike] at h ⊢; exact alikes_py h
    | _ => simp [alike] at h
  | .lst xs, y, h => by
    cases y with
    | lst ys => simp only [alike, toPy, PySem.W.alike] at h ⊢; exact alikes_py h
    | _ => simp [alike] at h
  | .dic _, y, h => by cases y <;> simp [alike] at h
  | .obj _, y, h => by cases y <;> simp [alike] at h
  | .fn _, y, h => by cases y <;> simp [alike] at h
  | .scr _, y, h => by cases y <;> simp [alike] at h
theorem alikes_py : ∀ {xs ys : List D}, alikes xs ys = true → PySem.W.alikeAll (toPys xs) (toPys ys) = true
  | [], ys, h => by cases ys <;> simp [toPys, PySem.W.alikeAll]
  | x :: xs, [], h => by simp [toPys, PySem.W.alikeAll]
  | x :: xs, y :: ys, h => by
    simp only [alikes, Bool.and_eq_true] at h
    simp only [toPys, PySem.W.alikeAll, Bool.and_eq_true]
    exact ⟨alike_py h.1, alikes_py h.2⟩
end
/-- the order of lists of alike things, from the left -/
theorem lex_nil {ys : List PyData} : PyProof.Rows.lexLt PyProof.Rows.itemOrd (PySem.W.keyToksAll []) (PySem.W.keyToksAll ys) = !ys.isEmpty := by
  have h := PySem.W.firstLt_toks [] ys (by simp [PySem.W.alikeAll])
  rw [← h]
  cases ys <;> simp [PySem.SeqAt.firstLt]
theorem lex_nil' {x : PyData} {xs : List PyData} : PyProof.Rows.lexLt PyProof.Rows.itemOrd (PySem.W.keyToksAll (x :: xs)) (PySem.W.keyToksAll []) = false := by
  have h := PySem.W.firstLt_toks (x :: xs) [] (by simp [PySem.W.alikeAll])
  rw [← h]
  simp [PySem.SeqAt.firstLt]
theorem firstLt_map (e r : Nat → Bool) (fin : Bool) : ∀ l : List Nat, PySem.SeqAt.firstLt e r fin (l.map (· + 1)) = PySem.SeqAt.firstLt (fun j => e (j + 1)) (fun j => r (j + 1)) fin l
  | [] => rfl
  | j :: t => by simp only [List.map_cons, PySem.SeqAt.firstLt, firstLt_map e r fin t]
theorem lex_cons {x y : PyData} {xs ys : List PyData} (h : PySem.W.alikeAll (x :: xs) (y :: ys) = true) :
    PyProof.Rows.lexLt PyProof.Rows.itemOrd (PySem.W.keyToksAll (x :: xs)) (PySem.W.keyToksAll (y :: ys)) =
      if PyData.eqv x y = true then PyProof.Rows.lexLt PyProof.Rows.itemOrd (PySem.W.keyToksAll xs) (PySem.W.keyToksAll ys) else PySem.W.dataLt x y := by
  have h1 := PySem.W.firstLt_toks (x :: xs) (y :: ys) h
  have h2 := PySem.W.firstLt_toks xs ys (PySem.W.alike_all_cons h).2
  rw [← h1, ← h2]
  have hr : List.range (min (x :: xs).length (y :: ys).length) = 0 :: (List.range (min xs.length ys.length)).map (· + 1) := by
    have : min (x :: xs).length (y :: ys).length = min xs.length ys.length + 1 := by simp only [List.length_cons]; omega
    rw [this, List.range_succ_eq_map]
  rw [hr, PySem.SeqAt.firstLt, firstLt_map]
  have e0 : PySem.SeqAt.pairEq (x :: xs) (y :: ys) 0 = PyData.eqv x y := by simp [PySem.SeqAt.pairEq]
  rw [e0]
  have e1 : (fun j => PySem.SeqAt.pairEq (x :: xs) (y :: ys) (j + 1)) = PySem.SeqAt.pairEq xs ys := by funext j; simp [PySem.SeqAt.pairEq]
  have e2 : decide ((x :: xs).length < (y :: ys).length) = decide (xs.length < ys.length) := by simp
  rw [e1, e2]
  simp
mutual
theorem lt_py : ∀ {n m : Nat} {x y : D}, py n x = true → py m y = true → alike x y = true → ltD x y = PySem.W.dataLt (toPy x) (toPy y)
  | n, m, .non, y, _, _, h => by
    cases y with
    | non => simp only [ltD, toPy, PySem.W.dataLt]; exact (PyProof.Rows.lex_irrefl _).symm
    | _ => simp [alike] at h
  | n, m, .bl b, y, _, _, h => by
    cases y with
    | bl c => simp only [ltD, toPy]; rw [PySem.W.dataLt_bool]; cases b <;> cases c <;> decide
    | _ => simp [alike] at h
  | n, m, .int i, y, _, _, h => by
    cases y with
    | int j => simp only [ltD, toPy]; rw [PySem.W.dataLt_int]
    | _ => simp [alike] at h
  | n, m, .str x, y, _, _, h => by
    cases y with
    | str z => simp only [ltD, toPy]; rw [PySem.W.dataLt_str]
    | _ => simp [alike] at h
  | n, m, .tup xs, y, h1, h2, h => by
    cases y with
    | tup ys =>
      obtain ⟨n', _, h1⟩ := py_tup h1
      obtain ⟨m', _, h2⟩ := py_tup h2
      simp only [alike] at h
      simp only [ltD, toPy]
      rw [lts_py h1 h2 h]
      simp only [PySem.W.dataLt, PySem.W.keyToks]
    | _ => simp [alike] at h
  | n, m, .lst xs, y, h1, h2, h => by
    cases y with
    | lst ys =>
      obtain ⟨n', _, h1⟩ := py_lst h1
      obtain ⟨m', _, h2⟩ := py_lst h2
      simp only [alike] at h
      simp only [ltD, toPy]
      rw [lts_py h1 h2 h]
      simp only [PySem.W.dataLt, PySem.W.keyToks]
    | _ => simp [alike] at h
  | n, m, .dic _, y, h1, _, h => by simp [py] at h1
  | n, m, .obj _, y, h1, _, h => by simp [py] at h1
  | n, m, .fn _, y, h1, _, h => by simp [py] at h1
  | n, m, .scr _, y, h1, _, h => by simp [py] at h1
theorem lts_py : ∀ {n m : Nat} {xs ys : List D}, xs.all (py n) = true → ys.all (py m) = true → alikes xs ys = true → ltDs xs ys = PyProof.Rows.lexLt PyProof.Rows.itemOrd (PySem.W.keyToksAll (toPys xs)) (PySem.W.keyToksAll (toPys ys))
  | n, m, [], ys, h1, h2, h => by rw [toPys, lex_nil]; cases ys <;> simp [ltDs, toPys]
  | n, m, x :: xs, [], h1, h2, h => by rw [toPys, toPys, lex_nil']; simp [ltDs]
  | n, m, x :: xs, y :: ys, h1, h2, h => by
    have ha := alikes_py h
    simp only [toPys] at ha ⊢
    rw [lex_cons ha]
    simp only [List.all_cons, Bool.and_eq_true] at h1 h2
    simp only [alikes, Bool.and_eq_true] at h
    rw [ltDs, eqv_py h1.1 h2.1, lts_py h1.2 h2.2 h.2, lt_py h1.1 h2.1 h.1]
end
mutual
theorem depth_py : ∀ {n : Nat} {x : D}, py n x = true → (toPy x).depth ≤ n
  | n, .non, h => by simp [toPy, PyData.depth]
  | n, .bl b, h => by simp [toPy, PyData.depth]
  | n, .int i, h => by simp [toPy, PyData.depth]
  | n, .str x, h => by simp [toPy, PyData.depth]
  | n, .tup xs, h => by
    obtain ⟨n', rfl, h⟩ := py_tup h
    simp only [toPy, PyData.depth]
    exact Nat.succ_le_succ (depths_py h)
  | n, .lst xs, h => by
    obtain ⟨n', rfl, h⟩ := py_lst h
    simp only [toPy, PyData.depth]
    exact Nat.succ_le_succ (depths_py h)
  | n, .dic _, h => by simp [py] at h
  | n, .obj _, h => by simp [py] at h
  | n, .fn _, h => by simp [py] at h
  | n, .scr _, h => by simp [py] at h
theorem depths_py : ∀ {n : Nat} {xs : List D}, xs.all (py n) = true → PyData.depthAll (toPys xs) ≤ n
  | n, [], h => by simp [toPys, PyData.depthAll]
  | n, x :: xs, h => by
    simp only [List.all_cons, Bool.and_eq_true] at h
    simp only [toPys, PyData.depthAll]
    exact Nat.max_le.mpr ⟨depth_py h.1, depths_py h.2⟩
end
section
variable {g : Gb} {W : Wo} {H : Hp}
mutual
theorem dp_of : ∀ {n : Nat} {d : D} {v : V}, py n d = true → g.Rep W H d v → Dp g.K H v (toPy d) ∧ (toPy d).canLay0 = true
  | n, .non, v, h, r => by simp only [Rep] at r; subst r; exact ⟨by rw [toPy]; exact .non, by simp [toPy, PyData.canLay0]⟩
  | n, .bl b, v, h, r => by simp only [Rep] at r; subst r; exact ⟨by rw [toPy]; exact .bl b, by simp [toPy, PyData.canLay0]⟩
  | n, .int i, v, h, r => by simp only [Rep] at r; subst r; exact ⟨by rw [toPy]; exact .int i, by simp [toPy, PyData.canLay0]⟩
  | n, .str x, v, h, r => by
    simp only [Rep] at r
    obtain ⟨rfl, hs⟩ := r
    refine ⟨by rw [toPy]; exact .str _, ?_⟩
    rw [toPy]
    simp only [PyData.canLay0, PyData.strOk]
    simpa using hs.2
  | n, .tup ds, v, h, r => by
    simp only [Rep] at r
    obtain ⟨a, xs, rfl, ht, hr⟩ := r
    obtain ⟨m, _, h⟩ := py_tup h
    obtain ⟨h1, h2⟩ := dps_of h hr
    refine ⟨?_, by rw [toPy, PyData.canLay0]; exact h2⟩
    rw [toPy]
    refine .tup ?_ h1
    rcases ht with ⟨_, ht⟩ | ht
    · exact .of ht
    · exact .inr ht
  | n, .lst ds, v, h, r => by
    simp only [Rep] at r
    obtain ⟨a, xs, rfl, ht, hr⟩ := r
    obtain ⟨m, _, h⟩ := py_lst h
    obtain ⟨h1, h2⟩ := dps_of h hr
    exact ⟨by rw [toPy]; exact .lst (.of ht.2) h1, by rw [toPy, PyData.canLay0]; exact h2⟩
  | n, .dic _, v, h, r => by simp [py] at h
  | n, .obj _, v, h, r => by simp [py] at h
  | n, .fn _, v, h, r => by simp [py] at h
  | n, .scr _, v, h, r => by simp [py] at h
theorem dps_of : ∀ {n : Nat} {ds : List D} {vs : List V}, ds.all (py n) = true → g.Reps W H ds vs → DpAll g.K H vs (toPys ds) ∧ PyData.canLayAll0 (toPys ds) = true
  | n, [], vs, h, r => by simp only [Reps] at r; subst r; exact ⟨by rw [toPys]; exact .nil, by simp [toPys, PyData.canLayAll0]⟩
  | n, d :: ds, vs, h, r => by
    simp only [Reps] at r
    obtain ⟨v, r, rfl, r1, r2⟩ := r
    simp only [List.all_cons, Bool.and_eq_true] at h
    obtain ⟨a1, a2⟩ := dp_of h.1 r1
    obtain ⟨b1, b2⟩ := dps_of h.2 r2
    exact ⟨by rw [toPys]; exact .cons a1 b1, by simp [toPys, PyData.canLayAll0, a2, b2]⟩
end
theorem dpP {n : Nat} {d : D} {v : V} (h : py n d = true) (r : RepP g.K g.mg W H d v) : Dp g.K H v (toPy d) ∧ (toPy d).canLay0 = true := by
  rcases r with r | ⟨p, rfl, hm, r⟩
  · exact dp_of h r
  · cases d with
    | lst ds =>
      obtain ⟨xs, h1, h2⟩ := r
      obtain ⟨m, _, h⟩ := py_lst h
      obtain ⟨a1, a2⟩ := dps_of h h2
      exact ⟨by rw [toPy]; exact .lst (.of h1) a1, by rw [toPy, PyData.canLay0]; exact a2⟩
    | dic _ => simp [py] at h
    | _ => exact r.elim
theorem shP {d : D} {v : V} (h : py 40 d = true) (r : RepP g.K g.mg W H d v) : SeqAt.shaped (toPy d) = true := by
  have h2 : (toPy d).depth ≤ 40 := depth_py h
  unfold SeqAt.shaped
  rw [(dpP h r).2, Bool.true_and]
  exact decide_eq_true (Nat.le_trans h2 (by decide))
end
end DL

set_option Elab.async false
set_option linter.all false
set_option maxRecDepth 100000
set_option maxHeartbeats 2000000
/-! DL, part H: what operators give. -/
namespace DL
open PySem PySem.Spec PyProof.Rows L2 NdefX
section
variable {g : Gb} {W : Wo} {H : Hp} {S : Sto}
theorem RepP.int {i : Int} {v : V} (h : RepP g.K g.mg W H (.int i) v) : v = .int i := by
  rcases h with h | ⟨p, _, _, h⟩
  · simpa only [Rep] using h
  · exact h.elim
theorem RepP.str {x : List Nat} {v : V} (h : RepP g.K g.mg W H (.str x) v) : v = strV x ∧ sOk x := by
  rcases h with h | ⟨p, _, _, h⟩
  · simpa only [Rep] using h
  · exact h.elim
theorem RepP.tup {ds : List D} {v : V} (h : RepP g.K g.mg W H (.tup ds) v) : ∃ a xs, v = .ref a ∧ SqT g.K H a xs ∧ g.Reps W H ds xs ∧ g.Rep W H (.tup ds) v := by
  rcases h with h | ⟨p, _, _, h⟩
  · have h0 := h
    simp only [Rep] at h
    obtain ⟨a, xs, h1, h2, h3⟩ := h
    refine ⟨a, xs, h1, ?_, h3, h0⟩
    rcases h2 with ⟨_, h2⟩ | h2
    · exact .of h2
    · exact .inr h2
  · exact h.elim
theorem RepP.lst {ds : List D} {v : V} (h : RepP g.K g.mg W H (.lst ds) v) : ∃ a xs, v = .ref a ∧ H a = some (.lst xs) ∧ g.Reps W H ds xs := by
  rcases h with h | ⟨p, h0, _, h⟩
  · simp only [Rep] at h
    obtain ⟨a, xs, h1, h2, h3⟩ := h
    exact ⟨a, xs, h1, h2.2, h3⟩
  · obtain ⟨xs, h1, h2⟩ := h
    exact ⟨p, xs, h0, h1, h2⟩
theorem RepP.dic {ds : List (D × D)} {v : V} (h : RepP g.K g.mg W H (.dic ds) v) : ∃ a xs, v = .ref a ∧ H a = some (.dK xs) ∧ RepKs g.K g.mg W H ds xs := by
  rcases h with h | ⟨p, h0, _, h⟩
  · simp only [Rep] at h
    obtain ⟨a, xs, h1, h2, h3⟩ := h
    exact ⟨a, xs, h1, h2.2, h3⟩
  · obtain ⟨xs, h1, h2⟩ := h
    exact ⟨p, xs, h0, h1, h2⟩
theorem RepP.rep_of {d : D} {v : V} (h : RepP g.K g.mg W H d v) (hl : ∀ p, ¬ At g.K g.mg W H p d) : g.Rep W H d v := by
  rcases h with h | ⟨p, _, _, h⟩
  · exact h
  · exact (hl p h).elim
theorem Reps.app {xs ys : List D} {vs ws : List V} (h1 : g.Reps W H xs vs) (h2 : g.Reps W H ys ws) : g.Reps W H (xs ++ ys) (vs ++ ws) := by
  induction xs generalizing vs with
  | nil => simp only [Reps] at h1; subst h1; exact h2
  | cons d xs ih =>
    simp only [Reps] at h1
    obtain ⟨v, r, rfl, r1, r2⟩ := h1
    simp only [List.cons_append, Reps]
    exact ⟨v, r ++ ws, rfl, r1, ih r2⟩
theorem Reps.get {xs : List D} {vs : List V} (h : g.Reps W H xs vs) : ∀ {i : Nat} {d : D}, xs[i]? = some d → ∃ v, vs[i]? = some v ∧ g.Rep W H d v := by
  induction xs generalizing vs with
  | nil => intro i d e; simp at e
  | cons x xs ih =>
    intro i d e
    simp only [Reps] at h
    obtain ⟨v, r, rfl, r1, r2⟩ := h
    cases i with
    | zero => simp at e; subst e; exact ⟨v, rfl, r1⟩
    | succ i => simpa using ih r2 (by simpa using e)
theorem Reps.take {xs : List D} {vs : List V} (h : g.Reps W H xs vs) (n : Nat) : g.Reps W H (xs.take n) (vs.take n) := by
  induction xs generalizing vs n with
  | nil => simp only [Reps] at h; subst h; simp [Reps]
  | cons x xs ih =>
    simp only [Reps] at h
    obtain ⟨v, r, rfl, r1, r2⟩ := h
    cases n with
    | zero => simp [Reps]
    | succ n => simp only [List.take_succ_cons, Reps]; exact ⟨v, _, rfl, r1, ih r2 n⟩
theorem Reps.drop {xs : List D} {vs : List V} (h : g.Reps W H xs vs) (n : Nat) : g.Reps W H (xs.drop n) (vs.drop n) := by
  induction xs generalizing vs n with
  | nil => simp only [Reps] at h; subst h; simp [Reps]
  | cons x xs ih =>
    have h' := h
    simp only [Reps] at h
    obtain ⟨v, r, rfl, r1, r2⟩ := h
    cases n with
    | zero => exact h'
    | succ n => simpa using ih r2 n
theorem Reps.rep {xs : List D} {vs : List V} (h : g.Reps W H xs vs) (n : Nat) : g.Reps W H (rep xs n) (List.replicate n vs).flatten := by
  unfold DL.rep
  induction n with
  | zero => simp [Reps]
  | succ n ih => rw [List.replicate_succ, List.flatten_cons, List.replicate_succ, List.flatten_cons]; exact h.app ih
theorem sOk.app {x y : List Nat} (h1 : sOk x) (h2 : sOk y) (h : x.length + y.length ≤ zLine) : sOk (x ++ y) := by
  refine ⟨by rw [List.length_append]; exact h, fun c hc => ?_⟩
  rcases List.mem_append.mp hc with z | z
  · exact h1.2 c z
  · exact h2.2 c z
theorem sOk.sub {x y : List Nat} (h : sOk x) (hl : y.length ≤ x.length) (hs : ∀ c ∈ y, c ∈ x) : sOk y := ⟨Nat.le_trans hl h.1, fun c hc => h.2 c (hs c hc)⟩
end
section
variable {X : Cx} {g : Gb} {P : Rl D V} {F : Value → Value → Sem Value}
theorem opd_or {o : Sto → D → D → Option D} {r r' : R2} (h : OpR X F r) (h' : OpR X F r') (im : ∀ W H S a b z x y Q, g.Sta W H S → RepP g.K g.mg W H a x → RepP g.K g.mg W H b y → o S a b = some z → (∀ v W' H', Ext W H W' H' → g.Sta W' H' S → P H W' H' z v → Q v H') → r x y H Q ∨ r' x y H Q) : OpD g X F P o :=
  ⟨_, h.or h', im⟩
/-- on ints alone -/
theorem opd_int {C : Int → Int → Prop} {f : Int → Int → V} {o : Sto → D → D → Option D} (h : OpR X F (rI C f)) (ho : ∀ S a b z, o S a b = some z → ∃ i j, a = .int i ∧ b = .int j ∧ C i j ∧ ∀ W H, g.Rep W H z (f i j)) : OpD g X F (rlR g) o :=
  ⟨_, h, fun W H S a b z x y Q st ra rb e k => by
    obtain ⟨i, j, rfl, rfl, hc, hz⟩ := ho S a b z e
    exact ⟨i, j, ra.int, rb.int, hc, k _ W H Ext.refl st (hz W H)⟩⟩
theorem rI_of {f : Int → Int → V} (h : OpR X F (rI0 f)) : OpR X F (rI (fun _ _ => True) f) := fun pins s σ H x y v u Q I rx ry ⟨i, j, e1, e2, _, q⟩ => h pins s σ H x y v u Q I rx ry ⟨i, j, e1, e2, q⟩
theorem o_sub : OpD g X (binaryOp .Sub) (rlR g) subS := opd_int (rI_of op_sub) fun S a b z e => by
  cases a <;> cases b <;> simp only [subS, iI, Option.some.injEq, reduceCtorEq] at e
  subst e
  exact ⟨_, _, rfl, rfl, trivial, fun _ _ => by simp only [Rep]⟩
theorem o_fdiv : OpD g X (binaryOp .FloorDiv) (rlR g) fdivS := opd_int op_fdivW fun S a b z e => by
  cases a <;> cases b <;> simp only [fdivS, reduceCtorEq] at e
  split at e
  · rename_i h
    cases e
    exact ⟨_, _, rfl, rfl, h, fun _ _ => by simp only [Rep]⟩
  · cases e
theorem o_mod : OpD g X (binaryOp .Mod) (rlR g) modS := opd_int op_mod fun S a b z e => by
  cases a <;> cases b <;> simp only [modS, reduceCtorEq] at e
  split at e
  · rename_i h
    cases e
    exact ⟨_, _, rfl, rfl, h, fun _ _ => by simp only [Rep]⟩
  · cases e
theorem o_pow : OpD g X (binaryOp .Pow) (rlR g) powS := opd_int op_pow fun S a b z e => by
  cases a <;> cases b <;> simp only [powS, reduceCtorEq] at e
  split at e
  · rename_i h
    cases e
    exact ⟨_, _, rfl, rfl, h, fun _ _ => by simp only [Rep]⟩
  · cases e
/-- a list, made anew -/
theorem fixL {W : Wo} {H : Hp} {S : Sto} (st : g.Sta W H S) {ds : List D} {xs : List V} (h : g.Reps W H ds xs) {p : Addr} (hp : H p = none) : ∃ W', Ext W H W' (upd H p (.lst xs)) ∧ g.Sta W' (upd H p (.lst xs)) S ∧ g.Rep W' (upd H p (.lst xs)) (.lst ds) (.ref p) := by
  obtain ⟨e, s, p', hp', h1, h2, h3, h4⟩ := newLst st h hp
  cases hp'
  obtain ⟨o, ho, hz⟩ := h4.live
  exact ⟨W.fix p, e.fixAt H hp, s.fixAt ho hz h3, fix_rep h4⟩
theorem o_add (hK : X.K = g.K) : OpD g X (binaryOp .Add) (rlR g) addS := by
  refine ⟨_, (op_add.or op_add_str).or ((op_catA).or op_cat), fun W H S a b z x y Q st ra rb e k => ?_⟩
  cases a with
  | int i =>
    cases b <;> simp only [addS, Option.some.injEq, reduceCtorEq] at e
    subst e
    exact .inl (.inl ⟨_, _, ra.int, rb.int, k _ W H Ext.refl st (by simp only [rlR, Rep])⟩)
  | str u =>
    cases b <;> simp only [addS, reduceCtorEq] at e
    split at e
    · rename_i w h
      cases e
      obtain ⟨rfl, hu⟩ := ra.str
      obtain ⟨rfl, hw⟩ := rb.str
      refine .inl (.inr ⟨_, _, rfl, rfl, by rw [sizeLine_eq]; simpa [Str.length] using h, k _ W H Ext.refl st ?_⟩)
      simp only [rlR, Rep]
      refine ⟨?_, hu.app hw h⟩
      show V.str (Str.append _ _) = _
      simp [Str.append, strV]
    · cases e
  | tup u =>
    cases b <;> simp only [addS, reduceCtorEq] at e
    split at e
    · rename_i w h
      cases e
      obtain ⟨p, xs, rfl, hx, rx, r0⟩ := ra.tup
      obtain ⟨q, ys, rfl, hy, ry, r1⟩ := rb.tup
      refine .inr (.inl ⟨p, q, xs, ys, rfl, rfl, by rw [hK]; exact hx, by rw [hK]; exact hy, by rw [sizeLine_eq, rx.len, ry.len]; exact h, fun z => ?_, fun _ z => ?_, fun _ _ n hn => ?_⟩)
      · have : u = [] := by cases u with
          | nil => rfl
          | cons => have := rx.len; rw [z] at this; simp at this
        subst this
        exact k _ W H Ext.refl st (by show g.Rep _ _ _ _; simpa using r1)
      · have : w = [] := by cases w with
          | nil => rfl
          | cons => have := ry.len; rw [z] at this; simp at this
        subst this
        exact k _ W H Ext.refl st (by show g.Rep _ _ _ _; simpa using r0)
      · obtain ⟨e, s, r⟩ := newTup st (rx.app ry) hn
        exact k _ _ _ e s r
    · cases e
  | lst u =>
    cases b <;> simp only [addS, reduceCtorEq] at e
    split at e
    · rename_i w h
      cases e
      obtain ⟨p, xs, rfl, hx, rx⟩ := ra.lst
      obtain ⟨q, ys, rfl, hy, ry⟩ := rb.lst
      refine .inr (.inr ⟨p, q, xs, ys, rfl, rfl, hx, hy, by rw [sizeLine_eq, rx.len, ry.len]; exact h, fun n hn => ?_⟩)
      obtain ⟨W', e, s, r⟩ := fixL st (rx.app ry) hn
      exact k _ _ _ e s r
    · cases e
  | _ => cases b <;> simp [addS] at e
theorem o_eq (hK : X.K = g.K) (hu : X.A.units + 64 < cLine) : OpD g X (compareOp .Eq) (rlR g) eqS := by
  refine ⟨_, op_eqD hu, fun W H S a b z x y Q st ra rb e k => ?_⟩
  unfold eqS at e
  split at e
  · rename_i h
    cases e
    rw [Bool.and_eq_true] at h
    refine ⟨toPy a, toPy b, by rw [hK]; exact (dpP h.1 ra).1, by rw [hK]; exact (dpP h.2 rb).1, shP h.1 ra, shP h.2 rb, k _ W H Ext.refl st ?_⟩
    simp only [rlR, Rep]
    rw [eqv_py h.1 h.2]
  · cases e
theorem o_ne (hK : X.K = g.K) (hu : X.A.units + 64 < cLine) : OpD g X (compareOp .NotEq) (rlR g) neS := by
  refine ⟨_, op_neD hu, fun W H S a b z x y Q st ra rb e k => ?_⟩
  unfold neS at e
  split at e
  · rename_i h
    cases e
    rw [Bool.and_eq_true] at h
    refine ⟨toPy a, toPy b, by rw [hK]; exact (dpP h.1 ra).1, by rw [hK]; exact (dpP h.2 rb).1, shP h.1 ra, shP h.2 rb, k _ W H Ext.refl st ?_⟩
    simp only [rlR, Rep]
    rw [eqv_py h.1 h.2]
  · cases e
/-- a comparison of alike data -/
def rOrd (K : PySem.W.Frag) (f : PyData → PyData → Bool) : R2 := fun x y H Q => ∃ d e, Dp K H x d ∧ Dp K H y e ∧ SeqAt.shaped d = true ∧ SeqAt.shaped e = true ∧ PySem.W.alike d e = true ∧ d ≠ .none ∧ Q (.bl (f d e)) H
theorem room_sh {A : Around} {d e : PyData} (hd : SeqAt.shaped d = true) (hu : A.units + 64 < cLine) : A.units + min d.depth e.depth < cLine := by
  unfold SeqAt.shaped at hd
  rw [Bool.and_eq_true] at hd
  have := of_decide_eq_true hd.2
  have : min d.depth e.depth ≤ 64 := Nat.le_trans (Nat.min_le_left _ _) this
  omega
theorem opr_ord {op : CmpOp} {f : PyData → PyData → Bool} (hu : X.A.units + 64 < cLine)
    (h : ∀ {s : Shared} {a b : Value} {da db : PyData} {as bs : List Addr} {Q : Value → Shared → Prop}, Reads s.heap a da as → Reads s.heap b db bs → PySem.W.alike da db = true → da ≠ .none → X.A.units + min da.depth db.depth < cLine → Q (.bool (f da db)) s → wpAny (model X.prog X.w) X.A (compareOp op a b) Q X.xe s) :
    OpR X (compareOp op) (rOrd X.K f) := by
  intro pins s σ H x y v u Q I rx ry hh
  obtain ⟨d, e, hd, he, sd, se, al, hn, q⟩ := hh
  obtain ⟨as, r1⟩ := Dp.reads I d x v hd rx
  obtain ⟨bs, r2⟩ := Dp.reads I e y u he ry
  exact h r1 r2 al hn (room_sh sd hu) ⟨.bl _, H, I, rfl, q⟩
theorem opd_ord {op : CmpOp} {f : PyData → PyData → Bool} {o : Sto → D → D → Option D} {t : D → D → Bool} (hK : X.K = g.K) (h : OpR X (compareOp op) (rOrd X.K f)) (ho : ∀ S a b, o S a b = if ordOk a b = true then some (.bl (t a b)) else none)
    (ht : ∀ a b, py 40 a = true → py 40 b = true → alike a b = true → t a b = f (toPy a) (toPy b)) : OpD g X (compareOp op) (rlR g) o := by
  refine ⟨_, h, fun W H S a b z x y Q st ra rb e k => ?_⟩
  rw [ho] at e
  split at e
  · rename_i c
    cases e
    unfold ordOk at c
    simp only [Bool.and_eq_true, Bool.not_eq_true'] at c
    obtain ⟨⟨⟨c1, c2⟩, c3⟩, c4⟩ := c
    refine ⟨toPy a, toPy b, by rw [hK]; exact (dpP c3 ra).1, by rw [hK]; exact (dpP c4 rb).1, shP c3 ra, shP c4 rb, alike_py c1, ?_, k _ W H Ext.refl st ?_⟩
    · cases a <;> simp_all [toPy, isN, py]
    · simp only [rlR, Rep]
      rw [ht a b c3 c4 c1]
  · cases e
mutual
theorem alike_comm : ∀ a b : D, alike a b = alike b a
  | .non, b => by cases b <;> simp [alike]
  | .bl _, b => by cases b <;> simp [alike]
  | .int _, b => by cases b <;> simp [alike]
  | .str _, b => by cases b <;> simp [alike]
  | .tup xs, b => by cases b <;> simp [alike]; exact alikes_comm _ _
  | .lst xs, b => by cases b <;> simp [alike]; exact alikes_comm _ _
  | .dic _, b => by cases b <;> simp [alike]
  | .obj _, b => by cases b <;> simp [alike]
  | .fn _, b => by cases b <;> simp [alike]
  | .scr _, b => by cases b <;> simp [alike]
theorem alikes_comm : ∀ a b : List D, alikes a b = alikes b a
  | [], b => by cases b <;> simp [alikes]
  | x :: xs, [] => by simp [alikes]
  | x :: xs, y :: ys => by simp only [alikes]; rw [alike_comm x y, alikes_comm xs ys]
end
theorem alike_sym {a b : D} (h3 : py 40 a = true) (h4 : py 40 b = true) (h : alike a b = true) : alike b a = true := by rw [alike_comm]; exact h
theorem o_lt (hK : X.K = g.K) (hu : X.A.units + 64 < cLine) : OpD g X (compareOp .Lt) (rlR g) ltS :=
  opd_ord (f := fun d e => PySem.W.dataLt d e) hK (opr_ord hu fun r1 r2 al hn hu q => PySem.W.lt_data r1 r2 al hn hu q) (fun _ _ _ => rfl) fun a b h1 h2 h3 => lt_py h1 h2 h3
theorem o_gt (hK : X.K = g.K) (hu : X.A.units + 64 < cLine) : OpD g X (compareOp .Gt) (rlR g) gtS :=
  opd_ord (t := fun a b => ltD b a) (f := fun d e => PySem.W.dataLt e d) hK (opr_ord hu fun r1 r2 al hn hu q => PySem.W.gt_data r1 r2 al hn hu q) (fun _ _ _ => rfl) fun a b h1 h2 h3 => lt_py h2 h1 (alike_sym h1 h2 h3)
theorem o_le (hK : X.K = g.K) (hu : X.A.units + 64 < cLine) : OpD g X (compareOp .LtE) (rlR g) leS :=
  opd_ord (t := fun a b => !ltD b a) (f := fun d e => !PySem.W.dataLt e d) hK (opr_ord hu fun r1 r2 al hn hu q => PySem.W.le_data r1 r2 al hn hu q) (fun _ _ _ => rfl) fun a b h1 h2 h3 => by rw [lt_py h2 h1 (alike_sym h1 h2 h3)]
theorem o_ge (hK : X.K = g.K) (hu : X.A.units + 64 < cLine) : OpD g X (compareOp .GtE) (rlR g) geS :=
  opd_ord (t := fun a b => !ltD a b) (f := fun d e => !PySem.W.dataLt d e) hK (opr_ord hu fun r1 r2 al hn hu q => PySem.W.ge_data r1 r2 al hn hu q) (fun _ _ _ => rfl) fun a b h1 h2 h3 => by rw [lt_py h1 h2 h3]
end
end DL

set_option Elab.async false
set_option linter.all false
set_option maxRecDepth 100000
set_option maxHeartbeats 2000000
/-! DL, part I: times, in, is; places, slices; calls of built-ins. -/
namespace DL
open PySem PySem.Spec PyProof.Rows L2 NdefX
section
variable {g : Gb} {W : Wo} {H : Hp} {S : Sto}
theorem reps_ns : ∀ ns : List Int, g.Reps W H (ns.map D.int) (ns.map V.int)
  | [] => by simp only [List.map_nil, Reps]
  | k :: l => by simp only [List.map_cons, Reps]; exact ⟨_, _, rfl, by simp only [Rep], reps_ns l⟩
theorem RepP.scr {ns : List Int} {v : V} (r : RepP g.K g.mg W H (.scr ns) v) : ∃ a, v = .ref a ∧ SqL g.K H a (ns.map V.int) := by
  rcases r with r | ⟨_, _, _, r⟩
  · simp only [Rep] at r
    obtain ⟨a, rfl, h⟩ := r
    exact ⟨a, rfl, h.imp And.right id⟩
  · exact r.elim
/-- the items -/
theorem seqP (st : g.Sta W H S) {d : D} {v : V} {ds : List D} (r : RepP g.K g.mg W H d v) (e : seqS S d = some ds) : ∃ a xs, v = .ref a ∧ (H a = some (.lst xs) ∨ SqT g.K H a xs) ∧ g.Reps W H ds xs := by
  cases d with
  | tup ds' =>
    cases e
    obtain ⟨a, xs, h1, h2, h3, _⟩ := r.tup
    exact ⟨a, xs, h1, .inr h2, h3⟩
  | lst ds' =>
    cases e
    obtain ⟨a, xs, h1, h2, h3⟩ := r.lst
    exact ⟨a, xs, h1, .inl h2, h3⟩
  | obj l =>
    rcases r with r | ⟨_, _, _, r⟩
    · simp only [Rep] at r
      obtain ⟨a, rfl, ha⟩ := r
      simp only [seqS] at e
      split at e
      · rename_i ds' hl
        cases e
        obtain ⟨xs, h1, h2⟩ := st.cells l _ a hl ha
        exact ⟨a, xs, rfl, .inl h1, h2⟩
      · cases e
    · exact r.elim
  | _ => cases e
theorem seqSq {K : PySem.W.Frag} {a : Addr} {xs : List V} (h : H a = some (.lst xs) ∨ SqT K H a xs) : SqL K H a xs ∨ SqT K H a xs := h.imp .of id
end
section
variable {X : Cx} {g : Gb} {P : Rl D V} {F : Value → Value → Sem Value}
/-! ### times -/
theorem opr_mulStr : OpR X (binaryOp .Mult) (fun x y H Q => ∃ z i, x = .str z ∧ y = .int i ∧ 0 ≤ i ∧ i ≤ 1000 ∧ z.length * i.toNat ≤ zLine ∧ Q (.str (Txt.mul z i)) H) := by
  rintro pins s σ H x y v u Q I rx ry ⟨z, i, rfl, rfl, h0, h1, hz, q⟩
  obtain ⟨t, rfl⟩ := rx
  obtain ⟨t', rfl⟩ := ry
  refine SB.mul ⟨?_, fun hn _ => ?_, fun _ _ => ?_⟩ fun t2 k => ⟨.str _, H, I.tok _, ⟨_, rfl⟩, q⟩
  · rw [Bool.or_eq_false_iff]
    exact ⟨decide_eq_false (by omega), decide_eq_false (by omega)⟩
  · have hi : 1 ≤ i := by omega
    have h5 : ((z.length * i.toNat : Nat) : Int) ≤ ((zLine : Nat) : Int) := by exact_mod_cast hz
    have h6 : (z.length : Int) ≤ (2 ^ 63 - 1) / i := by
      refine Int.le_ediv_of_mul_le (by omega) ?_
      rw [Int.natCast_mul, Int.toNat_of_nonneg (by omega)] at h5
      have : ((zLine : Nat) : Int) ≤ 2 ^ 63 - 1 := by decide
      omega
    omega
  · unfold PySem.Builtin.Str.tooLong
    exact decide_eq_false (Nat.not_lt.mpr (by rw [sizeLine_eq]; exact hz))
theorem mul_rep {x : List Nat} {i : Int} (h : 0 ≤ i) : Txt.mul ⟨x.toArray⟩ i = ⟨(rep x i.toNat).toArray⟩ := by
  have fl : ∀ (n : Nat) (a : Array Nat), (List.replicate n x.toArray).foldl (· ++ ·) a = a ++ (rep x n).toArray := by
    intro n
    induction n with
    | zero => intro a; simp [rep]
    | succ n ih => intro a; rw [List.replicate_succ, List.foldl_cons, ih]; simp [rep, List.replicate_succ]
  unfold Txt.mul
  by_cases h1 : i < 1
  · rw [if_pos h1]
    have : i.toNat = 0 := by omega
    rw [this]; simp [rep, Str.empty]
  · rw [if_neg h1]
    split
    · rename_i h2
      rw [Bool.or_eq_true] at h2
      rcases h2 with h2 | h2
      · have : i.toNat = 1 := by have := beq_iff_eq.mp h2; omega
        rw [this]; simp [rep]
      · have : x = [] := by
          have := beq_iff_eq.mp h2
          simp [Str.length] at this
          exact this
        subst this
        congr 1
        have : ∀ n, rep ([] : List Nat) n = [] := fun n => by
          unfold rep
          induction n with
          | zero => rfl
          | succ n ih => rw [List.replicate_succ, List.flatten_cons, ih]; rfl
        rw [this]
    · rw [fl]; simp
theorem rep_len {α : Type} (x : List α) (n : Nat) : (rep x n).length = x.length * n := by
  unfold rep
  induction n with
  | zero => simp
  | succ n ih => rw [List.replicate_succ, List.flatten_cons, List.length_append, ih, Nat.mul_succ, Nat.add_comm]
theorem rep_mem {α : Type} {x : List α} {n : Nat} {a : α} (h : a ∈ rep x n) : a ∈ x := by
  unfold rep at h
  obtain ⟨l, h1, h2⟩ := List.mem_flatten.mp h
  rw [List.eq_of_mem_replicate h1] at h2
  exact h2
theorem o_mul (hK : X.K = g.K) : OpD g X (binaryOp .Mult) (rlR g) mulS := by
  refine ⟨_, ((op_mul.or op_mulW).or opr_mulStr).or (op_repT.or op_rep), fun W H S a b z x y Q st ra rb e k => ?_⟩
  cases a with
  | int i =>
    cases b <;> simp only [mulS, reduceCtorEq] at e
    split at e
    · rename_i j h
      cases e
      unfold mulOk at h
      simp only [Bool.or_eq_true, Bool.and_eq_true, decide_eq_true_eq] at h
      rcases h with h | h
      · exact .inl (.inl (.inl ⟨_, _, ra.int, rb.int, h, k _ W H Ext.refl st (by simp only [rlR, Rep])⟩))
      · exact .inl (.inl (.inr ⟨_, _, ra.int, rb.int, h, k _ W H Ext.refl st (by simp only [rlR, Rep])⟩))
    · cases e
  | str u =>
    cases b <;> simp only [mulS, reduceCtorEq] at e
    split at e
    · rename_i j h
      cases e
      obtain ⟨rfl, hu⟩ := ra.str
      refine .inl (.inr ⟨_, j, rfl, rb.int, h.1, h.2.1, by simpa [Str.length] using h.2.2, k _ W H Ext.refl st ?_⟩)
      rw [mul_rep h.1]
      simp only [rlR, Rep]
      exact ⟨rfl, by rw [rep_len]; exact h.2.2, fun c hc => hu.2 c (rep_mem hc)⟩
    · cases e
  | tup u =>
    cases b <;> simp only [mulS, reduceCtorEq] at e
    split at e
    · rename_i j h
      cases e
      obtain ⟨p, xs, rfl, hx, rx, r0⟩ := ra.tup
      have hne : xs ≠ [] := fun z => by
        have z1 := rx.len
        rw [z] at z1
        have z2 := h.2.2.2
        rw [List.eq_nil_of_length_eq_zero z1.symm] at z2
        cases z2
      refine .inr (.inl ⟨p, j, xs, rfl, rb.int, by rw [hK]; exact hx, hne, h.1, h.2.1, by rw [rx.len]; exact h.2.2.1, fun n hn => ?_⟩)
      obtain ⟨e, s, r⟩ := newTup st (rx.rep j.toNat) hn
      exact k _ _ _ e s r
    · cases e
  | lst u =>
    cases b <;> simp only [mulS, reduceCtorEq] at e
    split at e
    · rename_i j h
      cases e
      obtain ⟨p, xs, rfl, hx, rx⟩ := ra.lst
      refine .inr (.inr ⟨p, j, xs, rfl, rb.int, hx, by omega, by omega, by rw [sizeLine_eq, rx.len]; exact h.2.2, fun n hn => ?_⟩)
      obtain ⟨W', e, s, r⟩ := fixL st (rx.rep j.toNat) hn
      exact k _ _ _ e s r
    · cases e
  | _ => cases b <;> simp [mulS] at e
/-! ### in -/
theorem anyPy {d : D} (hd : py 40 d = true) : ∀ {ds : List D}, ds.all (py 40) = true → ((toPys ds).any fun y => PyData.eqv y (toPy d)) = ds.any fun y => eqv y d
  | [], _ => by simp [toPys]
  | x :: xs, h => by
    simp only [List.all_cons, Bool.and_eq_true] at h
    simp only [toPys, List.any_cons]
    rw [anyPy hd h.2, eqv_py h.1 hd]
theorem shs {ds : List D} (h : ds.all (py 40) = true) (c : PyData.canLayAll0 (toPys ds) = true) : SeqAt.shaped (.list (toPys ds)) = true ∧ SeqAt.shaped (.tuple (toPys ds)) = true := by
  have := depths_py h
  unfold SeqAt.shaped
  constructor
  · rw [PyData.canLay0, c, Bool.true_and]
    exact decide_eq_true (by rw [PyData.depth]; omega)
  · rw [PyData.canLay0, c, Bool.true_and]
    exact decide_eq_true (by rw [PyData.depth]; omega)
def rInA (K : PySem.W.Frag) (neg : Bool) : R2 := fun x y H Q => ∃ a d ds xs, y = .ref a ∧ Dp K H x d ∧ SeqAt.shaped d = true ∧ (SqL K H a xs ∨ SqT K H a xs) ∧ DpAll K H xs ds ∧ PyData.canLayAll0 ds = true ∧ PyData.depthAll ds ≤ 40 ∧
  Q (.bl (if neg = true then !ds.any fun y => PyData.eqv y d else ds.any fun y => PyData.eqv y d)) H
theorem sh_of {ds : List PyData} (c : PyData.canLayAll0 ds = true) (h : PyData.depthAll ds ≤ 40) : SeqAt.shaped (.list ds) = true ∧ SeqAt.shaped (.tuple ds) = true := by
  unfold SeqAt.shaped
  constructor
  · rw [PyData.canLay0, c, Bool.true_and]
    exact decide_eq_true (by rw [PyData.depth]; omega)
  · rw [PyData.canLay0, c, Bool.true_and]
    exact decide_eq_true (by rw [PyData.depth]; omega)
theorem opr_in (hu : X.A.units + 65 < cLine) : OpR X (compareOp .In) (rInA X.K false) := by
  intro pins s σ H x y v u Q I rx ry h
  obtain ⟨a, d, ds, xs, rfl, hd, sd, hs, ha, hc, hdp, q⟩ := h
  obtain ⟨as, r1⟩ := Dp.reads I d x v hd rx
  obtain ⟨s1, s2⟩ := sh_of hc hdp
  rcases hs with hs | hs
  · obtain ⟨bs, r2⟩ := Dp.reads I (.list ds) (.ref a) u (.lst hs ha) ry
    exact SeqAt.in_list_reads r2 r1 (SeqAt.canLay_of_shaped s1) (SeqAt.canLay_of_shaped sd) (room_in_shaped sd hu) ⟨.bl _, H, I, rfl, q⟩
  · obtain ⟨bs, r2⟩ := Dp.reads I (.tuple ds) (.ref a) u (.tup hs ha) ry
    exact SeqAt.in_tuple_reads r2 r1 (SeqAt.canLay_of_shaped s2) (SeqAt.canLay_of_shaped sd) (room_in_shaped sd hu) ⟨.bl _, H, I, rfl, q⟩
theorem opr_notIn (hu : X.A.units + 65 < cLine) : OpR X (compareOp .NotIn) (rInA X.K true) := by
  intro pins s σ H x y v u Q I rx ry h
  obtain ⟨a, d, ds, xs, rfl, hd, sd, hs, ha, hc, hdp, q⟩ := h
  obtain ⟨as, r1⟩ := Dp.reads I d x v hd rx
  obtain ⟨s1, s2⟩ := sh_of hc hdp
  rcases hs with hs | hs
  · obtain ⟨bs, r2⟩ := Dp.reads I (.list ds) (.ref a) u (.lst hs ha) ry
    exact SeqAt.notIn_list_reads r2 r1 (SeqAt.canLay_of_shaped s1) (SeqAt.canLay_of_shaped sd) (room_in_shaped sd hu) ⟨.bl _, H, I, rfl, q⟩
  · obtain ⟨bs, r2⟩ := Dp.reads I (.tuple ds) (.ref a) u (.tup hs ha) ry
    exact SeqAt.notIn_tuple_reads r2 r1 (SeqAt.canLay_of_shaped s2) (SeqAt.canLay_of_shaped sd) (room_in_shaped sd hu) ⟨.bl _, H, I, rfl, q⟩
theorem opr_dIn (hu : X.A.units + 1 < cLine) : OpR X (compareOp .In) (fun x y H Q => ∃ a o, y = .ref a ∧ DGet H a x o ∧ Q (.bl o.isSome) H) := by
  rintro pins s σ H x y v u Q I rx ry ⟨a, o, rfl, hg, q⟩
  obtain rfl : u = Value.ref a := ry
  exact d_in hu I hg rx fun s3 I3 => ⟨.bl _, H, I3, rfl, q⟩
theorem opr_dNotIn (hu : X.A.units + 1 < cLine) : OpR X (compareOp .NotIn) (fun x y H Q => ∃ a o, y = .ref a ∧ DGet H a x o ∧ Q (.bl (!o.isSome)) H) := by
  rintro pins s σ H x y v u Q I rx ry ⟨a, o, rfl, hg, q⟩
  obtain rfl : u = Value.ref a := ry
  exact d_notIn hu I hg rx fun s3 I3 => ⟨.bl _, H, I3, rfl, q⟩
/-- a key of a dict -/
theorem keyP {g : Gb} {W : Wo} {H : Hp} {k : D} {v : V} (h : dKey k = true) (r : RepP g.K g.mg W H k v) : ∃ k', keyR k k' ∧ v = kV k' := by
  cases k with
  | int i => exact ⟨.inl i, rfl, r.int⟩
  | str x => exact ⟨.inr ⟨x.toArray⟩, ⟨rfl, r.str.2⟩, r.str.1⟩
  | _ => cases h
theorem keyR_eq : ∀ {k k' : D} {j j' : Key}, keyR k j → keyR k' j' → decide (j = j') = eqv k k'
  | .int a, .int b, .inl i, .inl j, h, h' => by
    simp only [keyR] at h h'
    subst h h'
    simp only [eqv]
    by_cases c : a = b <;> simp [c]
  | .int a, .str b, .inl i, .inr j, _, _ => by simp [eqv]
  | .str a, .int b, .inr i, .inl j, _, _ => by simp [eqv]
  | .str a, .str b, .inr i, .inr j, h, h' => by
    simp only [keyR] at h h'
    obtain ⟨rfl, _⟩ := h
    obtain ⟨rfl, _⟩ := h'
    simp only [eqv]
    rw [eqv_str]
    by_cases c : (⟨a.toArray⟩ : Str) = ⟨b.toArray⟩
    · rw [c]; simp
    · rw [beq_eq_false_iff_ne.mpr c]
      exact decide_eq_false fun z => c (Sum.inr.inj z)
theorem dGetP {g : Gb} {W : Wo} {H : Hp} {k : D} {j : Key} (hk : keyR k j) : ∀ {kvs : List (D × D)} {xs : List (Key × V)}, RepKs g.K g.mg W H kvs xs →
    (valV xs j = none ∧ dGet kvs k = none) ∨ ∃ d v, valV xs j = some v ∧ dGet kvs k = some d ∧ g.Rep W H d v
  | [], xs, r => by simp only [RepKs] at r; subst r; exact .inl ⟨rfl, rfl⟩
  | (k', d) :: kvs, xs, r => by
    simp only [RepKs] at r
    obtain ⟨j', v, r', rfl, h1, h2, h3⟩ := r
    have e := keyR_eq h1 hk
    unfold valV dGet
    rw [List.find?_cons, List.find?_cons]
    simp only [e]
    cases eqv k' k with
    | true => exact .inr ⟨d, v, rfl, rfl, h2⟩
    | false => exact dGetP hk h3
theorem inP {W : Wo} {H : Hp} {S : Sto} {neg : Bool} (hK : X.K = g.K) {a b : D} {x y : V} {k : Bool} {Q : VK} (st : g.Sta W H S) (ra : RepP g.K g.mg W H a x) (rb : RepP g.K g.mg W H b y) (e : inB S a b = some k)
    (q : Q (.bl (if neg = true then !k else k)) H) : (rInA X.K neg x y H Q ∨ ∃ p o, y = .ref p ∧ DGet H p x o ∧ Q (.bl (if neg = true then !o.isSome else o.isSome)) H) ∨ ∃ (c : Nat) (z : Str), x = .str ⟨#[c]⟩ ∧ y = .str z ∧ Q (.bl (if neg = true then !decide (c ∈ z.cps.toList) else decide (c ∈ z.cps.toList))) H := by
  have seq : ∀ {ds : List D}, seqS S b = some ds → (py 40 a && ds.all (py 40)) = true → k = (ds.any fun d => eqv d a) → rInA X.K neg x y H Q := fun {ds} es h hk => by
    rw [Bool.and_eq_true] at h
    obtain ⟨p, xs, rfl, hs, hr⟩ := seqP st rb es
    obtain ⟨d1, d2⟩ := dps_of h.2 hr
    refine ⟨p, toPy a, toPys ds, xs, rfl, by rw [hK]; exact (dpP h.1 ra).1, shP h.1 ra, by rw [hK]; exact seqSq hs, by rw [hK]; exact d1, d2, depths_py h.2, ?_⟩
    rw [anyPy h.1 h.2, ← hk]
    exact q
  cases b with
  | str z =>
    simp only [inB] at e
    split at e
    · rename_i c
      cases e
      obtain ⟨rfl, _⟩ := ra.str
      obtain ⟨rfl, _⟩ := rb.str
      refine .inr ⟨c, _, rfl, rfl, ?_⟩
      have : decide (c ∈ (⟨z.toArray⟩ : Str).cps.toList) = z.contains c := by
        by_cases hc : c ∈ z <;> simp [hc]
      rw [this]
      exact q
    · cases e
  | dic kvs =>
    simp only [inB] at e
    split at e
    · rename_i hk
      cases e
      obtain ⟨p, xs, rfl, h1, h2⟩ := rb.dic
      obtain ⟨j, hj, rfl⟩ := keyP hk ra
      refine .inl (.inr ⟨p, valV xs j, rfl, .k h1, ?_⟩)
      rcases dGetP hj h2 with ⟨h3, h4⟩ | ⟨d, v, h3, h4, _⟩
      · rw [h4] at q; rw [h3]; exact q
      · rw [h4] at q; rw [h3]; exact q
    · cases e
  | tup ds =>
    simp only [inB, seqS] at e
    split at e
    · rename_i h
      cases e
      exact .inl (.inl (seq rfl h rfl))
    · cases e
  | lst ds =>
    simp only [inB, seqS] at e
    split at e
    · rename_i h
      cases e
      exact .inl (.inl (seq rfl h rfl))
    · cases e
  | obj l =>
    simp only [inB] at e
    split at e
    · rename_i ds hds
      split at e
      · rename_i h
        cases e
        exact .inl (.inl (seq hds h rfl))
      · cases e
    · cases e
  | _ => simp [inB, seqS] at e
theorem o_in (hK : X.K = g.K) (hu : X.A.units + 65 < cLine) : OpD g X (compareOp .In) (rlR g) inS := by
  refine ⟨_, ((opr_in hu).or (opr_dIn (by omega))).or op_in_sign, fun W H S a b z x y Q st ra rb e k => ?_⟩
  unfold inS at e
  cases ei : inB S a b with
  | none => rw [ei] at e; cases e
  | some b' =>
    rw [ei] at e
    cases e
    exact inP (neg := false) hK st ra rb ei (k _ W H Ext.refl st (by simp [rlR, Rep]))
theorem o_notIn (hK : X.K = g.K) (hu : X.A.units + 65 < cLine) : OpD g X (compareOp .NotIn) (rlR g) notInS := by
  refine ⟨_, ((opr_notIn hu).or (opr_dNotIn (by omega))).or op_notIn_sign, fun W H S a b z x y Q st ra rb e k => ?_⟩
  unfold notInS at e
  cases ei : inB S a b with
  | none => rw [ei] at e; cases e
  | some b' =>
    rw [ei] at e
    cases e
    exact inP (neg := true) hK st ra rb ei (k _ W H Ext.refl st (by simp [rlR, Rep]))
/-! ### is None -/
theorem o_isNon : OpD g X (compareOp .Is) (rlR g) (fun S a b => match b with | .non => isNonS S a | _ => none) := by
  refine ⟨_, op_isN, fun W H S a b z x y Q st ra rb e k => ?_⟩
  cases b with
  | non =>
    have hy : y = .non := by
      rcases rb with rb | ⟨_, _, _, rb⟩
      · simpa only [Rep] using rb
      · exact rb.elim
    refine ⟨hy, k _ W H Ext.refl st ?_⟩
    cases e
    simp only [rlR, Rep]
    rcases ra with ra | ⟨p, rfl, _, ra⟩
    · cases a <;> simp only [Rep] at ra
      · subst ra; rfl
      · subst ra; rfl
      · subst ra; rfl
      · obtain ⟨rfl, _⟩ := ra; rfl
      · obtain ⟨a, xs, rfl, _⟩ := ra; rfl
      · obtain ⟨a, xs, rfl, _⟩ := ra; rfl
      · obtain ⟨a, xs, rfl, _⟩ := ra; rfl
      · obtain ⟨a, rfl, _⟩ := ra; rfl
      · obtain ⟨a, rfl, _⟩ := ra; rfl
      · obtain ⟨a, rfl, _⟩ := ra; rfl
    · cases a <;> first | exact ra.elim | rfl
  | _ => cases e
theorem o_notNon : OpD g X (compareOp .IsNot) (rlR g) (fun S a b => match b with | .non => notNonS S a | _ => none) := by
  refine ⟨_, op_notN, fun W H S a b z x y Q st ra rb e k => ?_⟩
  cases b with
  | non =>
    have hy : y = .non := by
      rcases rb with rb | ⟨_, _, _, rb⟩
      · simpa only [Rep] using rb
      · exact rb.elim
    refine ⟨hy, k _ W H Ext.refl st ?_⟩
    cases e
    simp only [rlR, Rep]
    rcases ra with ra | ⟨p, rfl, _, ra⟩
    · cases a <;> simp only [Rep] at ra
      · subst ra; rfl
      · subst ra; rfl
      · subst ra; rfl
      · obtain ⟨rfl, _⟩ := ra; rfl
      · obtain ⟨a, xs, rfl, _⟩ := ra; rfl
      · obtain ⟨a, xs, rfl, _⟩ := ra; rfl
      · obtain ⟨a, xs, rfl, _⟩ := ra; rfl
      · obtain ⟨a, rfl, _⟩ := ra; rfl
      · obtain ⟨a, rfl, _⟩ := ra; rfl
      · obtain ⟨a, rfl, _⟩ := ra; rfl
    · cases a <;> first | exact ra.elim | rfl
  | _ => cases e
end
/-! ### places -/
section
variable {X : Cx} {g : Gb} {Wx : WX} {H₀ : Hp} {a b : Expr} {fa fb : Ev} {pos : Pos}
theorem ix_dict (hu : X.A.units + 1 < cLine) : IxR X (fun x y H Q => ∃ a v, x = .ref a ∧ DGet H a y (some v) ∧ Q v H) := by
  rintro value slice pins s σ H x y v u Q I rx ry ⟨a, z, rfl, hg, q⟩ hs
  obtain rfl : v = Value.ref a := rx
  exact tail_any (dict_typeIs I hg) PySem.F.slot_dict_getitem.lookup (d_getItem hu I hg ry fun w' s3 I3 rw' => ⟨z, H, I3, rw', q⟩) hs
theorem atI_L {α : Type} (xs : List α) (i : Int) : atI xs i = atL xs i := rfl
theorem atL_len {α β : Type} {xs : List α} {ys : List β} (h : xs.length = ys.length) {i : Int} {x : α} (e : atL xs i = some x) : ∃ j, xs[j]? = some x ∧ ixNat ys.length i = some j := by
  unfold atL at e
  rw [← h]
  cases ej : ixNat xs.length i with
  | none => rw [ej] at e; cases e
  | some j => rw [ej] at e; exact ⟨j, e, rfl⟩
theorem ixP {W : Wo} {H : Hp} {S : Sto} (hK : X.K = g.K) {d i z : D} {x y : V} {Q : VK} (st : g.Sta W H S) (rx : RepP g.K g.mg W H d x) (ry : RepP g.K g.mg W H i y) (e : ixS S d i = some z)
    (q : ∀ v, g.Rep W H z v → Q v H) : (rIxL X.K x y H Q ∨ rIxT X.K x y H Q ∨ rIxS x y H Q) ∨ ∃ a v, x = .ref a ∧ DGet H a y (some v) ∧ Q v H := by
  have seq : ∀ {j : Int} {ds : List D}, i = .int j → seqS S d = some ds → atL ds j = some z → (rIxL X.K x y H Q ∨ rIxT X.K x y H Q) := fun {j ds} hi hs hj => by
    subst hi
    obtain ⟨p, xs, rfl, h1, h2⟩ := seqP st rx hs
    obtain ⟨k, hk, hn⟩ := atL_len (h2.len).symm hj
    obtain ⟨v, hv, hr⟩ := h2.get hk
    have ha : atI xs j = some v := by rw [atI_L, atL, hn]; exact hv
    rcases h1 with h1 | h1
    · exact .inl ⟨p, xs, j, v, rfl, ry.int, .of h1, ha, q v hr⟩
    · exact .inr ⟨p, xs, j, v, rfl, ry.int, by rw [hK]; exact h1, ha, q v hr⟩
  have dict : ∀ {kvs : List (D × D)}, d = .dic kvs → dKey i = true → dGet kvs i = some z → ∃ a v, x = .ref a ∧ DGet H a y (some v) ∧ Q v H := fun {kvs} hd hk hz => by
    subst hd
    obtain ⟨p, xs, rfl, h1, h2⟩ := rx.dic
    obtain ⟨j, hj, rfl⟩ := keyP hk ry
    rcases dGetP hj h2 with ⟨_, h4⟩ | ⟨d', v, h3, h4, h5⟩
    · rw [hz] at h4; cases h4
    · rw [hz] at h4
      cases h4
      exact ⟨p, v, rfl, by rw [← h3]; exact .k h1, q v h5⟩
  cases i with
  | int j =>
    cases d with
    | str u =>
      simp only [ixS] at e
      cases ec : atL u j with
      | none => rw [ec] at e; cases e
      | some c =>
        rw [ec] at e
        cases e
        obtain ⟨rfl, hs⟩ := rx.str
        have hmem : c ∈ u := by
          obtain ⟨k, hk, _⟩ := atL_len (ys := u) rfl ec
          exact List.mem_of_getElem? hk
        refine .inl (.inr (.inr ⟨_, j, c, rfl, ry.int, by rw [sizeLine_eq]; simpa [Str.length] using hs.1, by rw [atI_L]; simpa using ec, q _ ?_⟩))
        simp only [Rep]
        exact ⟨rfl, by show 1 ≤ zLine; decide, fun c' hc' => by simp at hc'; subst hc'; exact hs.2 _ hmem⟩
    | dic kvs => exact .inr (dict rfl rfl e)
    | tup ds => exact .inl ((seq rfl rfl e).imp id .inl)
    | lst ds => exact .inl ((seq rfl rfl e).imp id .inl)
    | obj l =>
      simp only [ixS] at e
      cases es : seqS S (.obj l) with
      | none => rw [es] at e; cases e
      | some ds => rw [es] at e; exact .inl ((seq rfl es e).imp id .inl)
    | scr ns =>
      have e : atL (ns.map D.int) j = some z := e
      obtain ⟨p, rfl, hx⟩ := rx.scr
      have h2 : g.Reps W H (ns.map D.int) (ns.map V.int) := reps_ns ns
      obtain ⟨k, hk, hn⟩ := atL_len (h2.len).symm e
      obtain ⟨v, hv, hr⟩ := h2.get hk
      have ha : atI (ns.map V.int) j = some v := by rw [atI_L, atL, hn]; exact hv
      exact .inl (.inl ⟨p, _, j, v, rfl, ry.int, by rw [hK]; exact hx, ha, q v hr⟩)
    | _ => simp [ixS, seqS] at e
  | str u =>
    cases d with
    | dic kvs => exact .inr (dict rfl rfl e)
    | _ => simp [ixS] at e
  | _ => simp [ixS] at e
theorem d_ix (hK : X.K = g.K) (hu : X.A.units + 1 < cLine) (ha : PE X a (rd g Wx H₀ (rlP g) fa)) (hb : PE X b (rd g Wx H₀ (rlP g) fb)) (hs : PlainIx b := by exact fun _ _ => rfl) : PE X (.Subscript a b pos) (rd g Wx H₀ (rlR g) (e2 ixS fa fb)) :=
  (pe_ix (ix_seq.or (ix_dict hu)) ha hb hs).imp fun σ H Q ⟨W, ρ, S, st, en, h⟩ => step monoR st en h fun x W1 H1 S1 d e1 s1 n1 p1 h1 => step monoR s1 n1 h1 fun y W2 H2 S2 d2 e2 s2 n2 p2 h2 => by
    obtain ⟨z, ez, h3⟩ := h2.opt
    exact ixP hK s2 (RepP.ext e2 s1 p1) p2 ez fun v r => h3 v W2 H2 Ext.refl s2 r
/-! ### slices -/
theorem o_none : PO X none (rd g Wx H₀ rlE oNone) := ⟨fun pins s σ H Q I ⟨W, ρ, S, st, en, h⟩ => po_none.run pins s σ H Q I (h none W H Ext.refl st rfl)⟩
theorem o_some (ha : PE X a (rd g Wx H₀ (rlP g) fa)) : PO X (some a) (rd g Wx H₀ rlE (oSome fa)) := ⟨fun pins s σ H Q I ⟨W, ρ, S, st, en, h⟩ => (po_some ha).run pins s σ H Q I (step monoE st en h fun x W1 H1 S1 d e1 s1 n1 p1 h1 => by
    obtain ⟨z, ez, h3⟩ := h1.opt
    cases d with
    | int i =>
      cases ez
      exact ⟨i, p1.int, h3 _ W1 H1 Ext.refl s1 rfl⟩
    | _ => cases ez)⟩
theorem sIx_HT (n d : Nat) (o : Option Int) : HT.sIx n d o = sIx n d o := by cases o <;> rfl
theorem cutV_cut (xs : List V) (lo hi : Option Int) : cutV xs lo hi = cut xs lo hi := by unfold cutV cut; rw [sIx_HT, sIx_HT]
theorem cutReps {W : Wo} {H : Hp} {ds : List D} {xs : List V} (h : g.Reps W H ds xs) (lo hi : Option Int) : g.Reps W H (cut ds lo hi) (cut xs lo hi) := by
  unfold cut
  rw [h.len]
  exact (h.drop _).take _
theorem cut_whole {α : Type} {xs : List α} {lo hi : Option Int} (h1 : sIx xs.length 0 lo = 0) (h2 : sIx xs.length xs.length hi = xs.length) : cut xs lo hi = xs := by
  unfold cut
  rw [h1, h2]
  simp
theorem cut_len {α : Type} (xs : List α) (lo hi : Option Int) : (cut xs lo hi).length ≤ xs.length := by
  unfold cut
  rw [List.length_take, List.length_drop]
  omega
theorem cut_mem {α : Type} {xs : List α} {lo hi : Option Int} {x : α} (h : x ∈ cut xs lo hi) : x ∈ xs := List.mem_of_mem_drop (List.mem_of_mem_take h)
variable {lo hi : Option Expr} {fl fh : Eo} {p2 : Pos}
theorem d_cut (hK : X.K = g.K) (ha : PE X a (rd g Wx H₀ (rlP g) fa)) (hl : PO X lo (rd g Wx H₀ rlE fl)) (hh : PO X hi (rd g Wx H₀ rlE fh)) : PE X (.Subscript a (.Slice lo hi none p2) pos) (rd g Wx H₀ (rlR g) (eCut fa fl fh)) :=
  (pe_slice ((sl_list.or sl_tupA).or sl_str) ha hl hh).imp fun σ H Q ⟨W, ρ, S, st, en, h⟩ => step monoR st en h fun x W1 H1 S1 d e1 s1 n1 p1 h1 => step monoR s1 n1 h1 fun l W2 H2 S2 l' e2 s2 n2 pl h2 => step monoR s2 n2 h2 fun u W3 H3 S3 u' e3 s3 n3 pu h3 => by
    cases pl
    cases pu
    obtain ⟨z, ez, h4⟩ := h3.opt
    have p3 := RepP.ext e3 s2 (RepP.ext e2 s1 p1)
    cases d with
    | str w =>
      cases ez
      obtain ⟨rfl, hs⟩ := p3.str
      refine .inr ⟨_, rfl, by rw [sizeLine_eq]; simpa [Str.length] using hs.1, h4 _ W3 H3 Ext.refl s3 ?_⟩
      simp only [rlR, Rep]
      refine ⟨?_, hs.sub (cut_len _ _ _) fun c hc => cut_mem hc⟩
      unfold L2.cutS cut strV
      simp [Str.length, sIx_HT]
    | tup ds =>
      cases ez
      obtain ⟨p, xs, rfl, hx, rx, r0⟩ := p3.tup
      have hl := rx.len
      refine .inl (.inr ⟨p, xs, rfl, by rw [hK]; exact hx, fun z => ?_, fun _ n hn => ?_⟩)
      · rw [sIx_HT, sIx_HT, hl] at z
        exact h4 _ W3 H3 Ext.refl s3 (by rw [cut_whole z.1 z.2]; exact r0)
      · rw [cutV_cut]
        obtain ⟨e, s, r⟩ := newTup s3 (cutReps rx l u) hn
        exact h4 _ _ _ e s r
    | lst ds =>
      cases ez
      obtain ⟨p, xs, rfl, hx, rx⟩ := p3.lst
      refine .inl (.inl ⟨p, xs, rfl, .of hx, fun n hn => ?_⟩)
      rw [cutV_cut]
      obtain ⟨W', e, s, r⟩ := fixL s3 (cutReps rx l u) hn
      exact h4 _ _ _ e s r
    | scr ns =>
      cases ez
      obtain ⟨p, rfl, hx⟩ := p3.scr
      refine .inl (.inl ⟨p, ns.map V.int, rfl, by rw [hK]; exact hx, fun n hn => ?_⟩)
      rw [cutV_cut]
      obtain ⟨W', e, s, r⟩ := fixL s3 (cutReps (reps_ns ns) l u) hn
      exact h4 _ _ _ e s r
    | _ => cases ez
end
end DL

set_option Elab.async false
set_option linter.all false
set_option maxRecDepth 100000
set_option maxHeartbeats 2000000
/-! DL, part J: things that change: lists of the frame's own; comprehensions. -/
namespace DL
open PySem PySem.Spec PyProof.Rows L2 NdefX
/-- a list, a dict -/
def isLd : HO → Prop
  | .lst _ => True
  | .dK _ => True
  | _ => False
section
variable {g : Gb} {W W₀ : Wo} {H H₀ : Hp} {S : Sto} {ρ : DL.Env} {σ : L2.St} {p : Addr} {o o' : HO}
theorem putLo (hR : ¬ W.R p) : Lo W H W (upd H p o') := ⟨fun _ h => h, ⟨[], by simp⟩, fun a u r h => by
  rw [upd_ne (fun z => hR (by rw [← z]; exact r))]; exact h⟩
theorem putFu (hR : ¬ W.R p) (hp : H p = some o) (hl : isLd o) : Fu W H W (upd H p o') := ⟨putLo hR, fun a u h x => by
  rw [upd_ne (fun z => by subst z; rw [hp] at h; cases h; cases o <;> first | exact x | exact hl)]; exact h⟩
theorem Sta.put (st : g.Sta W H S) (hp : H p = some o) (hl : isLd o) (hR : ¬ W.R p) (hm : p ∉ W.m) : g.Sta W (upd H p o') S where
  fz := fun a h => by
    obtain ⟨u, hu, hz⟩ := st.fz a h
    exact ⟨u, by rw [upd_ne (fun z => hR (by rw [← z]; exact h))]; exact hu, hz⟩
  nd := st.nd
  mR := st.mR
  len := st.len
  cells := fun l c a h1 h2 => (st.cells l c a h1 h2).lo (putLo hR) (fun u h => by rw [upd_ne (fun z => hm (by rw [← z]; exact List.mem_of_getElem? h2))]; exact h)
    fun b h => by rw [upd_ne (fun z => by subst z; rw [hp] at h; cases h; exact hl)]; exact h
  tabs := fun q hq => by
    obtain ⟨ps, h1, h2, h3⟩ := st.tabs q hq
    refine ⟨ps, by rw [upd_ne (fun z => by rw [z, hp] at h1; cases h1; exact hl)]; exact h1, h2, fun pos cv hc => ?_⟩
    obtain ⟨c, e1, e2⟩ := h3 pos cv hc
    refine ⟨c, e1, ?_⟩
    rw [upd_ne (fun z => by rw [z, hp] at e2; cases e2; exact hl)]
    exact e2
theorem Ext.put (e : Ext W₀ H₀ W H) (hn : H₀ p = none) : Ext W₀ H₀ W (upd H p o') :=
  ⟨e.sub, e.pre, fun a u h hm ht => by rw [upd_ne (ne_of_none h hn)]; exact e.keep a u h hm ht, e.newR, e.newM, fun a h => by
    unfold upd at h
    split at h
    · cases h
    · exact e.live a h⟩
theorem ExcOk.put {x : Exn} {cls : Value} {d : Option Addr} (hR : ¬ W.R p) (hp : H p = some o) (hl : isLd o) (h : ExcOk g W H x cls d) : ExcOk g W (upd H p o') x cls d := by
  obtain ⟨C, h1, h2, h3⟩ := h
  refine ⟨C, h1, h2, ?_⟩
  rcases h3 with h3 | ⟨q, fv, h3, h4, h5⟩
  · exact .inl h3
  · exact .inr ⟨q, fv, h3, by rw [upd_ne (fun z => by subst z; rw [hp] at h4; cases h4; exact hl)]; exact h4, h5.lo (putLo hR)⟩
/-- a slot that does not hold p -/
theorem SlotOk.put {s : Slot} {ov : Option V} (hR : ¬ W.R p) (hp : H p = some o) (hl : isLd o) (hq : ∀ d, s = .ow d → ov ≠ some (.ref p)) (h : SlotOk g W H H₀ s ov) : SlotOk g W (upd H p o') H₀ s ov := by
  cases s with
  | un => trivial
  | fz d =>
    obtain ⟨v, h1, h2⟩ := h
    exact ⟨v, h1, Rep.lo (putLo hR) h2⟩
  | ow d =>
    obtain ⟨q, h1, h2, h3, h4, h5⟩ := h
    have hne : q ≠ p := fun z => hq d rfl (by rw [h1, z])
    refine ⟨q, h1, h2, h3, h4, ?_⟩
    cases d with
    | lst ds => obtain ⟨xs, y1, y2⟩ := h5; exact ⟨xs, by rw [upd_ne hne]; exact y1, y2.lo (putLo hR)⟩
    | dic ds => obtain ⟨xs, y1, y2⟩ := h5; exact ⟨xs, by rw [upd_ne hne]; exact y1, y2.lo (putLo hR)⟩
    | _ => exact h5.elim
  | cl G =>
    obtain ⟨v, h1, h2⟩ := h
    exact ⟨v, h1, h2.fu (putFu hR hp hl)⟩
  | ex x =>
    obtain ⟨v, h1, a, cls, d, h2, h3, h4⟩ := h
    exact ⟨v, h1, a, cls, d, h2, h3, h4.put hR hp hl⟩
theorem EnvOk.put (en : EnvOk g W H H₀ ρ σ) (hR : ¬ W.R p) (hp : H p = some o) (hl : isLd o) (hq : ∀ (i : Nat) d, ρ[i]? = some (.ow d) → σ[i]? ≠ some (some (.ref p))) : EnvOk g W (upd H p o') H₀ ρ σ :=
  ⟨en.len, fun i s ov h1 h2 => (en.at_ i s ov h1 h2).put hR hp hl fun d e z => hq i d (by rw [h1, e]) (by rw [h2, z]), en.own⟩
/-- the slot that holds p -/
theorem EnvOk.ownPut (en : EnvOk g W H H₀ ρ σ) {i : Nat} {d d' : D} (hi : ρ[i]? = some (.ow d)) (hs : σ[i]? = some (some (.ref p))) (hp : H p = some o) (hl : isLd o) (ha : At g.K g.mg W (upd H p o') p d') : EnvOk g W (upd H p o') H₀ (ρ.set i (.ow d')) σ := by
  obtain ⟨ov, h1, q, h2, h3, h4, h5, h6⟩ := en.get hi
  rw [hs] at h1
  cases h1
  cases h2
  refine ⟨by rw [List.length_set, en.len], fun j s ov hj hs2 => ?_, fun j k d1 d2 q hjk hj hk hs1 hs2 => ?_⟩
  · rw [getElem?_set'] at hj
    by_cases hc : i = j ∧ j < ρ.length
    · rw [if_pos hc] at hj
      cases hj
      rw [← hc.1, hs] at hs2
      cases hs2
      exact ⟨p, rfl, h3, h4, h5, ha⟩
    · rw [if_neg hc] at hj
      have hij : i ≠ j := fun z => hc ⟨z, by rw [← z]; exact (List.getElem?_eq_some_iff.mp hi).1⟩
      exact (en.at_ j s ov hj hs2).put h4 hp hl fun e z1 z2 => en.own i j d e p hij hi (by rw [hj, z1]) hs (by rw [hs2, z2])
  · rw [getElem?_set'] at hj hk
    by_cases hc : i = j ∧ j < ρ.length
    · rw [if_pos hc] at hj
      by_cases hc2 : i = k ∧ k < ρ.length
      · exact absurd (hc.1.symm.trans hc2.1) hjk
      · rw [if_neg hc2] at hk
        rw [← hc.1] at hs1 hjk
        exact en.own i k d d2 q hjk hi hk hs1 hs2
    · rw [if_neg hc] at hj
      by_cases hc2 : i = k ∧ k < ρ.length
      · rw [← hc2.1] at hs2 hjk
        exact en.own j i d1 d q hjk hj hi hs1 hs2
      · rw [if_neg hc2] at hk
        exact en.own j k d1 d2 q hjk hj hk hs1 hs2
theorem wipeOk (en : EnvOk g W H H₀ ρ σ) : ∀ vs : List Nat, EnvOk g W H H₀ (wipe ρ vs) (L2.wipe σ vs)
  | [] => en
  | v :: vs => by
    unfold wipe L2.wipe
    exact (wipeOk en vs).set v (x := .un) (v := none) trivial fun _ z => nomatch z
theorem wipe_ow {i : Nat} {d : D} : ∀ {vs : List Nat} {ρ : DL.Env}, (wipe ρ vs)[i]? = some (.ow d) → ρ[i]? = some (.ow d) ∧ i ∉ vs
  | [], ρ, h => ⟨h, by simp⟩
  | v :: vs, ρ, h => by
    unfold wipe at h
    rw [getElem?_set'] at h
    split at h
    · cases h
    · rename_i hc
      obtain ⟨h1, h2⟩ := wipe_ow h
      refine ⟨h1, ?_⟩
      simp only [List.mem_cons, not_or]
      refine ⟨fun z => hc ⟨z.symm, (List.getElem?_eq_some_iff.mp h).1⟩, h2⟩
theorem wipe_get {i : Nat} : ∀ {vs : List Nat} {σ : L2.St}, i ∉ vs → (L2.wipe σ vs)[i]? = σ[i]?
  | [], σ, _ => rfl
  | v :: vs, σ, h => by
    simp only [List.mem_cons, not_or] at h
    unfold L2.wipe
    rw [List.getElem?_set_ne (Ne.symm h.1), wipe_get h.2]
theorem wipe_in {i : Nat} : ∀ {vs : List Nat} {σ : L2.St}, i ∈ vs → i < σ.length → (L2.wipe σ vs)[i]? = some none
  | v :: vs, σ, h, hl => by
    unfold L2.wipe
    rw [getElem?_set', wipe_length]
    by_cases hv : v = i
    · rw [if_pos ⟨hv, hl⟩]
    · rw [if_neg fun z => hv z.1]
      rcases List.mem_cons.mp h with z | z
      · exact absurd z.symm hv
      · exact wipe_in z hl
theorem wipe_eq {vs : List Nat} {σ σ' : L2.St} (hl : σ'.length = σ.length) (h : ∀ i, i ∉ vs → σ'[i]? = σ[i]?) : L2.wipe σ' vs = L2.wipe σ vs := by
  apply List.ext_getElem?
  intro i
  by_cases hi : i ∈ vs
  · by_cases hlt : i < σ.length
    · rw [wipe_in hi hlt, wipe_in hi (by rw [hl]; exact hlt)]
    · rw [List.getElem?_eq_none (by rw [wipe_length]; omega), List.getElem?_eq_none (by rw [wipe_length]; omega)]
  · rw [wipe_get hi, wipe_get hi, h i hi]
end
mutual
theorem put_len : ∀ {t : Tg} {d : D} {ρ ρ' : DL.Env}, t.put d ρ = some ρ' → ρ'.length = ρ.length
  | .nm i, d, ρ, ρ', h => by
    simp only [Tg.put, Option.some.injEq] at h
    subst h
    exact List.length_set
  | .tp ts, .tup ds, ρ, ρ', h => by
    simp only [Tg.put] at h
    exact puts_len h
  | .tp ts, .non, ρ, ρ', h => by simp [Tg.put] at h
  | .tp ts, .bl _, ρ, ρ', h => by simp [Tg.put] at h
  | .tp ts, .int _, ρ, ρ', h => by simp [Tg.put] at h
  | .tp ts, .str _, ρ, ρ', h => by simp [Tg.put] at h
  | .tp ts, .lst _, ρ, ρ', h => by simp [Tg.put] at h
  | .tp ts, .dic _, ρ, ρ', h => by simp [Tg.put] at h
  | .tp ts, .obj _, ρ, ρ', h => by simp [Tg.put] at h
  | .tp ts, .fn _, ρ, ρ', h => by simp [Tg.put] at h
  | .tp ts, .scr _, ρ, ρ', h => by simp [Tg.put] at h
theorem puts_len : ∀ {ts : List Tg} {ds : List D} {ρ ρ' : DL.Env}, Tg.puts ts ds ρ = some ρ' → ρ'.length = ρ.length
  | [], [], ρ, ρ', h => by simp only [Tg.puts, Option.some.injEq] at h; rw [h]
  | [], d :: ds, ρ, ρ', h => by simp [Tg.puts] at h
  | t :: ts, [], ρ, ρ', h => by simp [Tg.puts] at h
  | t :: ts, d :: ds, ρ, ρ', h => by
    simp only [Tg.puts] at h
    cases e : t.put d ρ with
    | none => rw [e] at h; cases h
    | some ρ1 =>
      rw [e] at h
      rw [puts_len h, put_len e]
end
/-! ### comprehensions -/
abbrev Wn : WX := fun _ _ _ _ => False
section
variable {X : Cx} {g : Gb} {Wx : WX} {H₀ : Hp} {elt tg iter : Expr} {ifs : List Expr} {scope : Scope} {own : List (Str × Nat)} {pos : Pos} {t : Tg} {it : DL.It} {c : Tv} {e : Ev}
theorem d_ifs0 : PTs X [] (rd g Wn H₀ rlE DL.tYes) := ⟨fun pins s σ H Q I ⟨W, ρ, S, st, en, h⟩ => pts_nil.run pins s σ H Q I (h true W H Ext.refl st rfl)⟩
theorem d_ifs1 {x : Expr} (h : PT X x (rd g Wn H₀ rlE c)) : PTs X [x] (rd g Wn H₀ rlE c) := pts_one h
theorem lcReading {σ : L2.St} {H : Hp} {Q : VK} (ht : ∀ i, i ∈ t.ix → i ∈ own.map (·.2)) (h : rd g Wx H₀ (rlF g) (eLc t it c e (own.map (·.2))) σ H Q) :
    tLc (rd g Wx H₀ (rlI g) it) (gd g H₀ t) (rd g Wn H₀ rlE c) (rd g Wn H₀ (rlR g) e) (own.map (·.2)) σ H Q := by
  obtain ⟨W, ρ, S, st, en, h⟩ := h
  refine step monoF st en h fun J W1 H1 S1 ds e1 s1 n1 p1 h1 => ?_
  generalize hvs : own.map (·.2) = vs at *
  intro D hD
  obtain ⟨n, G, Y, wk, hn, hG, hY⟩ := p1
  split at h1
  · rename_i hlen
    have hqD : ∀ (i : Nat) d, ρ[i]? = some (.ow d) → σ[i]? ≠ some (some (.ref D)) := fun i d hi hs => by
      obtain ⟨ov, k1, q, k2, _, _, _, k6⟩ := n1.get hi
      rw [hs] at k1
      cases k1
      cases k2
      obtain ⟨u, hu, _⟩ := k6.live
      rw [hD] at hu
      cases hu
    have wnR : ¬ W1.R D := fun z => by
      obtain ⟨o, ho, _⟩ := s1.fz D z
      rw [hD] at ho
      cases ho
    have wnM : D ∉ W1.m := fun z => by
      obtain ⟨l, hl⟩ := List.getElem?_of_mem z
      have hl2 : l < S1.length := by rw [← s1.len]; exact (List.getElem?_eq_some_iff.mp hl).1
      have hc := s1.cells l S1[l] D (by simp [hl2]) hl
      revert hc
      cases S1[l] with
      | lst ds => rintro ⟨xs, z, _⟩; rw [hD] at z; cases z
      | dic ds => rintro ⟨xs, z, _⟩; rw [hD] at z; cases z
      | ins c fs => rintro ⟨C, dx, fv, _, z, _⟩; rw [hD] at z; cases z
    let r : List DL.D → List DL.D → Sto → Res DL.D := fun done rest S' => (noX (lcGo t c e vs ρ rest S')).bind fun ys S2 => .ok (.lst (done ++ ys)) S2
    refine lc_it wk (fun i Hc => ∃ W' S' acc done, g.Sta W' Hc S' ∧ EnvOk g W' Hc H₀ ρ σ ∧ Ext W1 H1 W' Hc ∧ Lo W1 H1 W' Hc ∧ Hc D = some (.lst acc) ∧ g.Reps W' Hc done acc ∧ ¬ W'.R D ∧ D ∉ W'.m ∧ done.length ≤ i ∧
      rdp g Wx (rlF g) σ W1 H1 (r done (ds.drop i) S') Q) ?_ ?_ ?_ ?_
    · refine ⟨W1, S1, [], [], s1.new hD, (n1.ext (Ext.new hD) s1), Ext.new hD, (Ext.new (W := W1) hD).lo s1, upd_same, by simp only [Reps], wnR, wnM, Nat.le_refl _, ?_⟩
      have e0 : r [] (ds.drop 0) S1 = (noX (lcGo t c e vs ρ ds S1)).bind fun ys S2 => .ok (.lst ys) S2 := by
        show (noX (lcGo t c e vs ρ (ds.drop 0) S1)).bind _ = _
        rw [List.drop_zero]
        simp only [List.nil_append]
      rw [e0]
      exact h1
    · rintro i Hc _ ⟨W', S', acc, done, _, _, _, l, _⟩
      exact hG W' Hc l
    · rintro i x Hc H' hi ⟨W2, S2, acc, done, s2, n2, x2, l2, hacc, hr, hnR, hnM, hdl, h2⟩ hy
      obtain ⟨W3, d, e3, s3, hd, r3⟩ := hY i x W2 Hc S2 H' hi l2 s2 hy
      have hdr : ds.drop i = d :: ds.drop (i + 1) := by
        obtain ⟨hlt, hd2⟩ := List.getElem?_eq_some_iff.mp hd
        rw [List.drop_eq_getElem_cons hlt, hd2]
      rw [hdr] at h2
      have h2' : rdp g Wx (rlF g) σ W1 H1 ((noX ((opt (t.put d (wipe ρ vs)) S2).bind fun ρ1 S1 => (c ρ1 S1).bind fun k S2 =>
        if k = true then (e ρ1 S2).bind fun y S3 => (lcGo t c e vs ρ (ds.drop (i + 1)) S3).bind fun ys S4 => .ok (y :: ys) S4
        else lcGo t c e vs ρ (ds.drop (i + 1)) S2)).bind fun ys S2 => .ok (.lst (done ++ ys)) S2) Q := h2
      cases ep : t.put d (wipe ρ vs) with
      | none => rw [ep] at h2'; exact h2'.elim
      | some ρ1 =>
        rw [ep] at h2'
        have n3 := n2.ext e3 s2
        refine ⟨W3, wipe ρ vs, S2, d, ρ1, s3, wipeOk n3 vs, r3, ep, fun σ2 n4 k4 => ?_⟩
        have hw : L2.wipe σ2 vs = L2.wipe (L2.wipe σ vs) vs := wipe_eq (by rw [← n4.len, ← (wipeOk n3 vs).len]; exact put_len ep) fun j hj => k4 j fun z => hj (ht j z)
        have hww : L2.wipe (L2.wipe σ vs) vs = L2.wipe σ vs := wipe_eq (wipe_length _ _) fun j hj => wipe_get hj
        refine ⟨by rw [hw, hww], ?_⟩
        have keepD : ∀ {Wa Ha Wb Hb} {acc : List V}, Ext Wa Ha Wb Hb → Ha D = some (.lst acc) → ¬ Wa.R D → D ∉ Wa.m → Hb D = some (.lst acc) ∧ ¬ Wb.R D ∧ D ∉ Wb.m := fun {Wa Ha Wb Hb acc} ex a1 a2 a3 => ⟨ex.keep D _ a1 a3 trivial, ex.notR a1 a2, ex.notM a1 a3⟩
        obtain ⟨hacc3, hnR3, hnM3⟩ := keepD e3 hacc hnR hnM
        refine ⟨W3, ρ1, S2, s3, n4, ?_⟩
        have h5 : rdp g Wx (rlF g) σ W1 H1 ((noX ((c ρ1 S2).bind fun k S2 =>
          if k = true then (e ρ1 S2).bind fun y S3 => (lcGo t c e vs ρ (ds.drop (i + 1)) S3).bind fun ys S4 => .ok (y :: ys) S4
          else lcGo t c e vs ρ (ds.drop (i + 1)) S2)).bind fun ys S2 => .ok (.lst (done ++ ys)) S2) Q := h2'
        revert h5
        cases c ρ1 S2 with
        | exc y S3 => exact fun h5 => h5.elim
        | bad => exact fun h5 => h5
        | ok k S3 =>
          intro h5 b W4 H4 e4 s4 hk
          cases hk
          obtain ⟨hacc4, hnR4, hnM4⟩ := keepD e4 hacc3 hnR3 hnM3
          cases k with
          | false =>
            exact ⟨W4, S3, acc, done, s4, n3.ext e4 s3, x2.trans (e3.trans e4), l2.trans ((e3.lo s2).trans (e4.lo s3)), hacc4, (hr.ext e3 s2).ext e4 s3, hnR4, hnM4, by omega, h5⟩
          | true =>
            refine ⟨W4, ρ1, S3, s4, n4.ext e4 s3, ?_⟩
            have h6 : rdp g Wx (rlF g) σ W1 H1 ((noX ((e ρ1 S3).bind fun y S3 => (lcGo t c e vs ρ (ds.drop (i + 1)) S3).bind fun ys S4 => .ok (y :: ys) S4)).bind fun ys S2 => .ok (.lst (done ++ ys)) S2) Q := h5
            revert h6
            cases e ρ1 S3 with
            | exc y S4 => exact fun h6 => h6.elim
            | bad => exact fun h6 => h6
            | ok y S4 =>
              intro h6 v W5 H5 e5 s5 hv
              obtain ⟨hacc5, hnR5, hnM5⟩ := keepD e5 hacc4 hnR4 hnM4
              have hr5 : g.Reps W5 H5 done acc := ((hr.ext e3 s2).ext e4 s3).ext e5 s4
              refine ⟨acc, hacc5, ?_, W5, S4, acc ++ [v], done ++ [y], s5.put hacc5 trivial hnR5 hnM5, ((n3.ext e4 s3).ext e5 s4).put hnR5 hacc5 trivial hqD, (x2.trans (e3.trans (e4.trans e5))).put hD,
                (l2.trans ((e3.lo s2).trans ((e4.lo s3).trans (e5.lo s4)))).trans (putLo hnR5), upd_same, ?_, hnR5, hnM5, by rw [List.length_append]; simp; omega, ?_⟩
              · rw [hr.len, sizeLine_eq]
                have : i < ds.length := by rw [hn]; exact hi
                show done.length < zLine
                omega
              · refine (hr5.app ?_).lo (putLo hnR5)
                simp only [Reps]
                exact ⟨v, [], rfl, hv, rfl⟩
              · have e6 : r (done ++ [y]) (ds.drop (i + 1)) S4 = (noX ((lcGo t c e vs ρ (ds.drop (i + 1)) S4).bind fun ys S4 => .ok (y :: ys) S4)).bind fun ys S2 => .ok (.lst (done ++ ys)) S2 := by
                  show (noX (lcGo t c e vs ρ (ds.drop (i + 1)) S4)).bind _ = _
                  cases lcGo t c e vs ρ (ds.drop (i + 1)) S4 with
                  | ok ys S5 => simp
                  | exc _ _ => rfl
                  | bad => rfl
                rw [e6]
                exact h6
    · rintro Hc ⟨W', S', acc, done, s', n', x', l', hacc, hr, hnR, hnM, _, h'⟩
      have h' : rdp g Wx (rlF g) σ W1 H1 ((noX (lcGo t c e vs ρ (ds.drop n) S')).bind fun ys S2 => .ok (.lst (done ++ ys)) S2) Q := h'
      rw [← hn, List.drop_length] at h'
      have h'' : rdp g Wx (rlF g) σ W1 H1 (.ok (.lst (done ++ [])) S') Q := h'
      rw [List.append_nil] at h''
      exact h'' (.ref D) W' Hc x' s' ⟨D, rfl, hD, hnR, hnM, acc, hacc, hr⟩
  · exact h1.elim
end
end DL

set_option Elab.async false
set_option linter.all false
set_option maxRecDepth 100000
set_option maxHeartbeats 2000000
/-! DL, part K: what is walked. -/
namespace DL
open PySem PySem.Spec PyProof.Rows L2 NdefX
/-! ### a list or a tuple -/
theorem pi_seq {X : Cx} {tg l : Expr} {tl : TE} (hl : PE X l tl) : PI X tg l (fun σ H R => tl σ H fun x H1 => ∃ a, x = .ref a ∧ (((∃ xs, SqL X.K H1 a xs) ∧ R (Itl X.K a) H1) ∨ ((∃ xs, SqT X.K H1 a xs) ∧ R (Itt X.K a) H1))) := by
  refine ⟨fun pins s σ H R I h => ?_⟩
  refine thn (hl.run pins s σ H _ I h) fun v s1 ⟨x, H1, I1, r1, q1⟩ => ?_
  obtain ⟨a, e, ⟨⟨xs, hq⟩, q⟩ | ⟨⟨xs, hq⟩, q⟩⟩ := q1
  · subst e
    cases r1
    obtain ⟨its, rv, p, hz⟩ := I1.list hq
    refine wpAny_pyIter_list p.isList ?_
    refine ⟨s1.heap.objs.size, [s1.heap.objs.size], _, _, H1, rfl, I1.kept (t' := s1.toks) fun b o e => Heap.get?_push_of_some _ e, turn_list a _, ⟨_, Heap.get?_push_size _ rfl, rfl, rfl⟩, fun b hb => ?_, q⟩
    have e : b = s1.heap.objs.size := by simpa using hb
    subst e
    exact I1.fpOk (Nat.le_refl _) (I1.hok.fresh (Nat.le_refl _))
  · subst e
    cases r1
    obtain ⟨its, rv, p, hz⟩ := I1.tuple hq
    refine wpAny_pyIter_tuple (show s1.heap.IsTuple a its.toArray from p) ?_
    refine ⟨s1.heap.objs.size, [s1.heap.objs.size], _, _, H1, rfl, I1.kept (t' := s1.toks) fun b o e => Heap.get?_push_of_some _ e, turn_tuple a _, ⟨_, Heap.get?_push_size _ rfl, rfl, rfl⟩, fun b hb => ?_, q⟩
    have e : b = s1.heap.objs.size := by simpa using hb
    subst e
    exact I1.fpOk (Nat.le_refl _) (I1.hok.fresh (Nat.le_refl _))
section
variable {g : Gb} {W : Wo} {H : Hp} {S : Sto}
/-- a fixed list, a tuple: its walk, whatever comes -/
theorem seqWalk (st : g.Sta W H S) {d : D} {v : V} {ds : List D} (r : g.Rep W H d v) (e : seqF d = some ds) :
    ∃ a xs, v = .ref a ∧ g.Reps W H ds xs ∧ ((SqL g.K H a xs ∧ ∀ W' H', Lo W H W' H' → SqL g.K H' a xs) ∨ (SqT g.K H a xs ∧ ∀ W' H', Lo W H W' H' → SqT g.K H' a xs)) := by
  cases d with
  | tup x =>
    cases e
    simp only [Rep] at r
    obtain ⟨a, xs, rfl, ht, hr⟩ := r
    refine ⟨a, xs, rfl, hr, .inr ?_⟩
    rcases ht with ⟨h1, h2⟩ | h
    · exact ⟨.of h2, fun W' H' l => .of (l.keep a _ h1 h2)⟩
    · exact ⟨.inr h, fun _ _ _ => .inr h⟩
  | lst x =>
    cases e
    simp only [Rep] at r
    obtain ⟨a, xs, rfl, ⟨h1, h2⟩, hr⟩ := r
    exact ⟨a, xs, rfl, hr, .inl ⟨.of h2, fun W' H' l => .of (l.keep a _ h1 h2)⟩⟩
  | _ => cases e
theorem walkOf {J : L2.It} {G : Hp → Prop} {ds : List D} {xs : List V} (hr : g.Reps W H ds xs) (w : Walk J xs.length G (YAt xs)) (hG : ∀ W' H', Lo W H W' H' → G H') : rlI g H W H ds J := by
  refine ⟨xs.length, G, YAt xs, w, hr.len.symm, hG, fun i x W2 H2 S2 H' hi l s2 hy => ?_⟩
  obtain ⟨rfl, hx⟩ := hy
  have hi' : i < ds.length := by rw [← hr.len]; exact hi
  obtain ⟨v, hv, rv⟩ := hr.get (i := i) (d := ds[i]) (by simp [hi'])
  rw [hx] at hv
  cases hv
  exact ⟨W2, ds[i], Ext.refl, s2, by simp [hi'], Rep.lo l rv⟩
end
section
variable {X : Cx} {g : Gb} {Wx : WX} {H₀ : Hp} {tg a e : Expr} {fa : Ev} {fs : Evs} {n : Nat} {pos p : Pos}
theorem i_seq (hK : X.K = g.K) (ha : PE X a (rd g Wx H₀ (rlR g) fa)) : PI X tg a (rd g Wx H₀ (rlI g) (iSeq fa)) :=
  (pi_seq ha).imp fun σ H R ⟨W, ρ, S, st, en, h⟩ => step monoI st en h fun x W1 H1 S1 d e1 s1 n1 p1 h1 => by
    obtain ⟨ds, ed, h2⟩ := h1.opt
    obtain ⟨a, xs, rfl, hr, hs⟩ := seqWalk s1 p1 ed
    refine ⟨a, rfl, ?_⟩
    rw [hK]
    rcases hs with ⟨h3, h4⟩ | ⟨h3, h4⟩
    · exact .inl ⟨⟨xs, h3⟩, h2 _ W1 H1 Ext.refl s1 (walkOf hr walk_list h4)⟩
    · exact .inr ⟨⟨xs, h3⟩, h2 _ W1 H1 Ext.refl s1 (walkOf hr walk_tup h4)⟩
theorem i_str (ha : PE X a (rd g Wx H₀ (rlP g) fa)) : PI X tg a (rd g Wx H₀ (rlI g) (iStr fa)) :=
  (pi_str ha).imp fun σ H R ⟨W, ρ, S, st, en, h⟩ => step monoI st en h fun x W1 H1 S1 d e1 s1 n1 p1 h1 => by
    cases d with
    | str z =>
      obtain ⟨rfl, hs⟩ := p1.str
      refine ⟨_, rfl, h1 _ W1 H1 Ext.refl s1 ⟨z.length, _, _, walk_str (z := ⟨z.toArray⟩), by simp, fun _ _ _ => trivial, fun i x W2 H2 S2 H' hi l s2 hy => ?_⟩⟩
      obtain ⟨rfl, c, hc, rfl⟩ := hy
      have hc' : z[i]? = some c := by simpa using hc
      refine ⟨W2, .str [c], Ext.refl, s2, by rw [List.getElem?_map, hc']; rfl, ?_⟩
      simp only [Rep]
      exact ⟨rfl, by show 1 ≤ zLine; decide, fun c' hm => by simp at hm; subst hm; exact hs.2 _ (List.mem_of_getElem? hc')⟩
    | _ => exact h1.elim
theorem rangeWalk {W : Wo} {H : Hp} (lo : Int) (n : Nat) : rlI g H W H (upto lo n) (Itr lo n) :=
  ⟨n, _, _, walk_range, by simp [upto], fun _ _ _ => trivial, fun i x W2 H2 S2 H' hi l s2 hy => by
    obtain ⟨rfl, rfl⟩ := hy
    refine ⟨W2, .int (lo + (i : Int)), Ext.refl, s2, ?_, by simp only [Rep]⟩
    simp [upto, hi]⟩
theorem rangeS_len {xs : List D} {ds : List D} (h : rangeS xs = some ds) : xs.length = 1 ∨ xs.length = 2 ∨ xs.length = 3 := by
  unfold rangeS at h
  split at h <;> simp_all
theorem Reps.one {W : Wo} {H : Hp} {d : D} {vs : List V} (h : g.Reps W H [d] vs) : ∃ v, vs = [v] ∧ g.Rep W H d v := by
  simp only [Reps] at h
  obtain ⟨v, r, rfl, h1, rfl⟩ := h
  exact ⟨v, rfl, h1⟩
theorem Reps.two {W : Wo} {H : Hp} {d d2 : D} {vs : List V} (h : g.Reps W H [d, d2] vs) : ∃ v v2, vs = [v, v2] ∧ g.Rep W H d v ∧ g.Rep W H d2 v2 := by
  simp only [Reps] at h
  obtain ⟨v, r, rfl, h1, v2, r2, rfl, h2, rfl⟩ := h
  exact ⟨v, v2, rfl, h1, h2⟩
theorem Reps.three {W : Wo} {H : Hp} {d d2 d3 : D} {vs : List V} (h : g.Reps W H [d, d2, d3] vs) : ∃ v v2 v3, vs = [v, v2, v3] ∧ g.Rep W H d v ∧ g.Rep W H d2 v2 ∧ g.Rep W H d3 v3 := by
  simp only [Reps] at h
  obtain ⟨v, r, rfl, h1, v2, r2, rfl, h2, v3, r3, rfl, h3, rfl⟩ := h
  exact ⟨v, v2, v3, rfl, h1, h2, h3⟩
theorem Rep.int {W : Wo} {H : Hp} {i : Int} {v : V} (h : g.Rep W H (.int i) v) : v = .int i := by simpa only [Rep] using h
theorem i_range1 (hg : Gl X "range") (hm : X.mg "range" = none) (ha : PA X [a] (rd g Wx H₀ (rlN g 1) fs)) (hs : starEach [a] X.env = [(false, eval a X.env)] := by rfl) : PI X tg (.Call (.Name "range" p) [a] [] pos) (rd g Wx H₀ (rlI g) (iRange fs)) :=
  (pi_range1 hg hm ha hs).imp fun σ H R ⟨W, ρ, S, st, en, h⟩ => step monoI st en h fun x W1 H1 S1 d e1 s1 n1 p1 h1 => by
    obtain ⟨ds, ed, h2⟩ := h1.opt
    obtain ⟨pr, pl⟩ := p1
    match d, pl with
    | [d], _ =>
      obtain ⟨v, rfl, hv⟩ := pr.one
      cases d <;> simp only [rangeS, reduceCtorEq] at ed
      split at ed
      · rename_i hb
        cases ed
        exact ⟨_, by rw [hv.int], hb.2, hb.1, h2 _ W1 H1 Ext.refl s1 (rangeWalk 0 _)⟩
      · cases ed
theorem i_range2 {b : Expr} (hg : Gl X "range") (hm : X.mg "range" = none) (ha : PA X [a, b] (rd g Wx H₀ (rlN g 2) fs)) (hs : starEach [a, b] X.env = [(false, eval a X.env), (false, eval b X.env)] := by rfl) (hs2 : starEach [b] X.env = [(false, eval b X.env)] := by rfl) :
    PI X tg (.Call (.Name "range" p) [a, b] [] pos) (rd g Wx H₀ (rlI g) (iRange fs)) :=
  (pi_range2 hg hm ha hs hs2).imp fun σ H R ⟨W, ρ, S, st, en, h⟩ => step monoI st en h fun x W1 H1 S1 d e1 s1 n1 p1 h1 => by
    obtain ⟨ds, ed, h2⟩ := h1.opt
    obtain ⟨pr, pl⟩ := p1
    match d, pl with
    | [d, d2], _ =>
      obtain ⟨v, v2, rfl, hv, hv2⟩ := pr.two
      cases d <;> cases d2 <;> simp only [rangeS, reduceCtorEq] at ed
      split at ed
      · rename_i hb
        cases ed
        exact ⟨_, _, by rw [hv.int, hv2.int], ⟨hb.2.1, hb.1, hb.2.2.2, hb.2.2.1⟩, h2 _ W1 H1 Ext.refl s1 (rangeWalk _ _)⟩
      · cases ed
theorem rgc_of {i j c : Int} (hb : i < 2 ^ 60 ∧ -(2 ^ 60) ≤ i ∧ j < 2 ^ 60 ∧ -(2 ^ 60) ≤ j ∧ 0 < c ∧ c < 1073741824) : RgC i j c (if i < j then ((j - i - 1) / c + 1).toNat else 0) := by
  obtain ⟨h1, h2, h3, h4, h5, h6⟩ := hb
  have hsz : Builtin.Range.rangeSize i j c = ((if i < j then ((j - i - 1) / c + 1).toNat else 0 : Nat) : Int) := by
    unfold Builtin.Range.rangeSize
    rw [if_pos (show c > 0 from h5)]
    split
    · have : 0 ≤ (j - i - 1) / c := Int.ediv_nonneg (by omega) (by omega)
      omega
    · rfl
  refine ⟨by omega, by omega, ?_, hsz⟩
  unfold Builtin.Range.small
  rw [hsz]
  have key : i < j → (((j - i - 1) / c + 1).toNat : Int) ≤ 2 ^ 61 := fun hij => by
    have a1 : 0 ≤ (j - i - 1) / c := Int.ediv_nonneg (by omega) (by omega)
    have a2 : (j - i - 1) / c ≤ j - i - 1 := Int.ediv_le_self _ (by omega)
    omega
  have key2 : i < j → (((j - i - 1) / c + 1).toNat : Int) * c ≤ 2 ^ 62 ∧ 0 ≤ (((j - i - 1) / c + 1).toNat : Int) * c := fun hij => by
    have a1 : 0 ≤ (j - i - 1) / c := Int.ediv_nonneg (by omega) (by omega)
    have a2 : (j - i - 1) / c * c ≤ j - i - 1 := Int.ediv_mul_le _ (by omega)
    rw [Int.toNat_of_nonneg (by omega), Int.add_mul]
    have a3 : 0 ≤ (j - i - 1) / c * c := Int.mul_nonneg a1 (by omega)
    omega
  simp only [Builtin.Range.rangeFitsLong, Bool.and_eq_true, Bool.or_eq_true, decide_eq_true_eq, beq_iff_eq, if_pos (show c > 0 from h5)]
  split
  · rename_i hij
    have k1 := key hij
    have k2 := key2 hij
    omega
  · omega
theorem stepWalk {W : Wo} {H : Hp} (lo c : Int) (n : Nat) : rlI g H W H (stepTo lo c n) (Itc lo c n) :=
  ⟨n, _, _, walk_rangeC, by simp [stepTo], fun _ _ _ => trivial, fun i x W2 H2 S2 H' hi l s2 hy => by
    obtain ⟨rfl, rfl⟩ := hy
    refine ⟨W2, .int (lo + (i : Int) * c), Ext.refl, s2, ?_, by simp only [Rep]⟩
    simp [stepTo, hi]⟩
theorem i_range3 {b c : Expr} (hg : Gl X "range") (hm : X.mg "range" = none) (ha : PA X [a, b, c] (rd g Wx H₀ (rlN g 3) fs)) (hs : starEach [a, b, c] X.env = (false, eval a X.env) :: starEach [b, c] X.env := by rfl) (hpl : (backTo pos (starEach [b, c] X.env)).any (·.1) = false := by rfl) :
    PI X tg (.Call (.Name "range" p) [a, b, c] [] pos) (rd g Wx H₀ (rlI g) (iRange fs)) :=
  (pi_range3 hg hm ha hs hpl).imp fun σ H R ⟨W, ρ, S, st, en, h⟩ => step monoI st en h fun x W1 H1 S1 d e1 s1 n1 p1 h1 => by
    obtain ⟨ds, ed, h2⟩ := h1.opt
    obtain ⟨pr, pl⟩ := p1
    match d, pl with
    | [d, d2, d3], _ =>
      obtain ⟨v, v2, v3, rfl, hv, hv2, hv3⟩ := pr.three
      cases d <;> cases d2 <;> cases d3 <;> simp only [rangeS, reduceCtorEq] at ed
      split at ed
      · rename_i hb
        cases ed
        exact ⟨_, _, _, _, by rw [hv.int, hv2.int, hv3.int], rgc_of hb, h2 _ W1 H1 Ext.refl s1 (stepWalk _ _ _)⟩
      · cases ed
/-! ### enumerate -/
theorem meets_enumerate_newT (l : Addr) (items : Array Value) (n : Nat) (dct : Option Addr) (sl : Array (Option Value)) :
    Meets (Builtin.«enumerate.__new__» ⟨[.type "enumerate", .ref l], []⟩) (fun _ R s => s.heap.get? l = some { cls := .type "tuple", dict := dct, data := .seq items n, slots := sl } ∧
      R (.ok (.ret (.ref (s.heap.push { cls := .type "tuple_iterator", data := .fields #[.ref l, .int 0 0] }).objs.size)))
        { s with heap := (s.heap.push { cls := .type "tuple_iterator", data := .fields #[.ref l, .int 0 0] }).push { cls := .type "enumerate", data := .fields #[.none, .bool false, .ref s.heap.objs.size, rawInt 0, .none, .none] } }) :=
  .of_wp fun prog w A R s h => by
    obtain ⟨hp, g, d, tk, os⟩ := s; obtain ⟨hl, h⟩ := h
    have hsub := sub_enumerate
    have hL : Heap.IsTuple (Shared.heap ⟨hp, g, d, tk, os⟩) l items := ⟨_, hl, rfl, n, rfl⟩
    wp_walk using AutoSeq1.wpAny_loadPart' hl
    refine wpAny_stack_any fun st => wpAny_pure ?_
    split
    · rename_i c _ _ _ _ _
      cases (c == Value.type "enumerate")
      · wp_walk using AutoSeq1.wpAny_loadPart' hl, wpAny_pyIter_tuple hL
        exact ⟨_, rfl, h⟩
      · wp_walk using AutoSeq1.wpAny_loadPart' hl, wpAny_pyIter_tuple hL
        exact ⟨_, rfl, h⟩
    · wp_walk using AutoSeq1.wpAny_loadPart' hl, wpAny_pyIter_tuple hL
      exact ⟨_, rfl, h⟩
theorem call_enumerate_tuple {prog : Program} {w : World} {A : Around} {E : Value → Shared → Prop} {s : Shared} {l : Addr} {items : Array Value} {Q : Value → Shared → Prop} (hL : s.heap.IsTuple l items)
    (h : ∀ h', IsEnum h' (s.heap.objs.size + 1) s.heap.objs.size 0 .none → h'.IsTupleIter s.heap.objs.size l 0 → h'.objs.size = s.heap.objs.size + 2 →
      (∀ b o, s.heap.get? b = some o → h'.get? b = some o) → Q (.ref (s.heap.objs.size + 1)) { s with heap := h' }) :
    wpAny (model prog w) A (call (.type "enumerate") [.ref l]) Q E s := by
  obtain ⟨⟨c, dct, dt, sl⟩, hl, hc, n, hd⟩ := hL
  replace hc : c = .type "tuple" := hc
  replace hd : dt = .seq items n := hd
  subst hc hd
  refine callType_new F.called_enumerate (by decide) (F.typeCall_enumerate_1 _) (F.newCall_enumerate_1 _) (fun obj => F.args_object_init_2 obj _) F.entry_enumerate_new
    (meets_enumerate_newT l items n dct sl) ⟨hl, ?_⟩
  have hz : (s.heap.push { cls := .type "tuple_iterator", data := .fields #[.ref l, .int 0 0] }).objs.size = s.heap.objs.size + 1 := Heap.size_push ..
  show _ ∧ _
  rw [hz]
  have he : IsEnum ((s.heap.push { cls := .type "tuple_iterator", data := .fields #[.ref l, .int 0 0] }).push
      { cls := .type "enumerate", data := .fields #[.none, .bool false, .ref s.heap.objs.size, rawInt 0, .none, .none] }) (s.heap.objs.size + 1) s.heap.objs.size 0 .none := by
    have := Heap.get?_push_size (s.heap.push { cls := .type "tuple_iterator", data := .fields #[.ref l, .int 0 0] })
      (o := { cls := .type "enumerate", data := .fields #[.none, .bool false, .ref s.heap.objs.size, rawInt 0, .none, .none] }) rfl
    rw [hz] at this; exact this
  refine ⟨⟨_, he, rfl⟩, h _ he ⟨_, Heap.get?_push_of_some _ (Heap.get?_push_size _ rfl), rfl, rfl⟩ (by rw [Heap.size_push, hz]) fun b o x => Heap.get?_push_of_some _ (Heap.get?_push_of_some _ x)⟩
/-- the tuple at a, each item in a new pair -/
def Iet (K : PySem.W.Frag) (a : Addr) : L2.It :=
  ⟨fun i H => ∃ (xs : List V) (x : V), SqT K H a xs ∧ xs[i]? = some x, fun i H v H' => ∃ T x, v = .ref T ∧ H T = none ∧ H' = upd H T (.tup [.int (i : Nat), x]) ∧ ∀ xs, SqT K H a xs → xs[i]? = some x, fun i H => ∃ xs : List V, SqT K H a xs ∧ xs.length = i⟩
theorem turn_enumT {P : Program} {w : World} {K : PySem.W.Frag} {elts : List Expr} {kk : Nat} {tpos : Pos} (a e it : Addr) (hai : a ≠ it) (hae : a ≠ e) :
    Turn P w K (.Tuple elts kk tpos) (Iet K a) [e, it] e (fun i h => (∃ old, IsEnum h e it ((i : Nat) : Int) old) ∧ h.IsTupleIter it a i ∧ e ≠ it) where
  mem := by simp
  obj := fun i h st b hb => by
    obtain ⟨⟨old, he⟩, ⟨o, ho, hc, hd⟩, _⟩ := st
    have e' : b = e ∨ b = it := by simpa using hb
    rcases e' with z | z
    · rw [z]; exact ⟨_, he, fun v q => nomatch q⟩
    · rw [z]; exact ⟨o, ho, fun v q => by rw [hd] at q; cases q⟩
  keep := fun i h h' st k => let ⟨⟨old, he⟩, hi, hne⟩ := st; ⟨⟨old, k e (by simp) _ he⟩, hi.at fun o q => k it (by simp) o q, hne⟩
  item := by
    intro X hP hw hK hc i pins s σ H E I hf st hg
    subst hP hw hK
    obtain ⟨⟨old, he⟩, hit, hne⟩ := st
    obtain ⟨xs, x, hq, hx⟩ := hg
    obtain ⟨its, rv, p, hz⟩ := I.tuple hq
    obtain ⟨u, hu, ru⟩ := rv.get hx
    have hel : e < s.heap.objs.size := Heap.lt_size he
    have hil : it < s.heap.objs.size := by obtain ⟨_, q, _⟩ := hit; exact Heap.lt_size q
    have hi : i < its.toArray.size := by
      have := (List.getElem?_eq_some_iff.mp hu).1
      simpa using this
    refine wpAny_pyNext_enum_itemD (Draws.tuple (A := X.A.in1) (show X.A.in1.handled = none from I.ok.hd hc) it a hai its.toArray) he ⟨hit, p⟩ hi hne (by simp [hne, Ne.symm hae]) fun u' h' tk hu' ho hst hT hsz hk => ?_
    have eu : u' = u := by
      have : its[i]? = some u' := by simpa using hu'
      rw [hu] at this
      exact (Option.some.inj this).symm
    subst eu
    obtain ⟨hit', _⟩ := hst
    refine ⟨_, rfl, wpAny_letOwnedTupleGo_enum (s := { s with heap := h', toks := tk + 1 }) ho fun h'' he' sb => ?_⟩
    have hT2 : h''.get? s.heap.objs.size = some { cls := .type "tuple", data := .seq #[.int i tk, u'] } := (sb.2 _ (Nat.ne_of_gt hel)).trans hT
    have new : ObjOk X.prog X.w (upd H s.heap.objs.size (.tup [.int (i : Nat), x])) h'' s.heap.objs.size (.tup [.int (i : Nat), x]) :=
      ⟨by show 2 ≤ sizeLine; decide, [.int i tk, u'], .cons ⟨_, rfl⟩ (.cons ru .nil), ⟨_, hT2, rfl, _, rfl⟩⟩
    have I1 : Inv X pins σ (upd H s.heap.objs.size (.tup [.int (i : Nat), x])) { s with heap := h'', toks := tk + 1 } :=
      I.turnedNew (ch := [e, it]) (fun b ob hb q => (sb.2 b (fun z => hb (by simp [z]))).trans (hk b ob (fun z => hb (by simp [z])) (fun z => hb (by simp [z])) q)) hf (Nat.le_refl _) new
    refine ⟨.ref s.heap.objs.size, _, I1, rfl, ⟨_, x, rfl, I.hok.fresh (Nat.le_refl _), rfl, fun ys hy => by rw [I.tuple_inj hy hq]; exact hx⟩, ⟨⟨u', ?_⟩, hit'.at fun o q => (sb.2 it (Ne.symm hne)).trans q, hne⟩, fun b hb => ?_⟩
    · have e1 : ((i + 1 : Nat) : Int) = (i : Int) + 1 := by omega
      rw [e1]; exact he'
    · have hb' : b < s.heap.objs.size := by
        have e' : b = e ∨ b = it := by simpa using hb
        rcases e' with z | z
        · rw [z]; exact hel
        · rw [z]; exact hil
      rw [upd_ne (Nat.ne_of_lt hb')]
      exact (hf b hb).1
  done := by
    intro X hP hw hK hc i pins s σ H E I hf st hg
    subst hP hw hK
    obtain ⟨⟨old, he⟩, hit, hne⟩ := st
    obtain ⟨xs, hq, hx⟩ := hg
    obtain ⟨its, rv, p, hz⟩ := I.tuple hq
    obtain ⟨f0, f1, f2, f3, f4, f5⟩ := hf it (by simp)
    have hl := rv.length
    have hi : i = its.toArray.size := by rw [← hx, hl]; simp
    subst hi
    exact wpAny_pyNext_enum_endD (Draws.tuple (A := X.A.in1) (show X.A.in1.handled = none from I.ok.hd hc) it a hai its.toArray) he ⟨hit, p⟩ fun h' eb => ⟨rfl, I.turned (t' := s.toks) (fun b o hb q => eb b o hb q) f0 f1 f3 f4 f5⟩
  self := fun A i s Q E st h => let ⟨⟨_, he⟩, _⟩ := st; wpAny_pyIter_enum he h
theorem pi_enumS {elts : List Expr} {kk : Nat} {tpos : Pos} {ta : TA} (hg : Gl X "enumerate") (hm : X.mg "enumerate" = none) (ha : PA X [e] ta) (hs : starEach [e] X.env = [(false, eval e X.env)] := by rfl) :
    PI X (.Tuple elts kk tpos) (.Call (.Name "enumerate" p) [e] [] pos) (fun σ H R => ta σ H fun vs H1 => ∃ a, vs = [.ref a] ∧ (((∃ xs, SqL X.K H1 a xs) ∧ R (Ite X.K a) H1) ∨ ((∃ xs, SqT X.K H1 a xs) ∧ R (Iet X.K a) H1))) := by
  refine ⟨fun pins s σ H R I h => ?_⟩
  refine Call_ (ld_blt I hg hm boot_enumerate (PyProof.Rows.callWith_type1 (thn (ha.run pos pins s σ H _ I h) fun us s1 ⟨vs, H1, I1, r1, q1⟩ => ?_) hs rfl))
  obtain ⟨a, ex, ⟨⟨xs, hq⟩, q⟩ | ⟨⟨xs, hq⟩, q⟩⟩ := q1
  · subst ex
    cases r1 with
    | cons r rr =>
      cases rr
      cases r
      obtain ⟨its, rv, p', hz⟩ := I1.list hq
      refine call_enumerate_list p'.isList fun h' he hit hsz hk => wpAny_pyIter_enum he ?_
      have I2 : Inv X pins σ H1 { s1 with heap := h' } := I1.kept (t' := s1.toks) hk
      refine ⟨s1.heap.objs.size + 1, [s1.heap.objs.size + 1, s1.heap.objs.size], _, _, H1, rfl, I2, turn_enum a (s1.heap.objs.size + 1) s1.heap.objs.size, ⟨⟨.none, he⟩, hit, Nat.succ_ne_self _⟩, fun b hb => ?_, q⟩
      have e' : b = s1.heap.objs.size + 1 ∨ b = s1.heap.objs.size := by simpa using hb
      have hle : s1.heap.objs.size ≤ b := by
        rcases e' with z | z
        · rw [z]; exact Nat.le_add_right _ _
        · rw [z]; exact Nat.le_refl _
      exact I1.fpOk hle (I1.hok.fresh hle)
  · subst ex
    cases r1 with
    | cons r rr =>
      cases rr
      cases r
      obtain ⟨its, rv, p', hz⟩ := I1.tuple hq
      have hla : a < s1.heap.objs.size := p'.lt
      refine call_enumerate_tuple p' fun h' he hit hsz hk => wpAny_pyIter_enum he ?_
      have I2 : Inv X pins σ H1 { s1 with heap := h' } := I1.kept (t' := s1.toks) hk
      refine ⟨s1.heap.objs.size + 1, [s1.heap.objs.size + 1, s1.heap.objs.size], _, _, H1, rfl, I2, turn_enumT a (s1.heap.objs.size + 1) s1.heap.objs.size (Nat.ne_of_lt hla) (Nat.ne_of_lt (Nat.lt_succ_of_lt hla)), ⟨⟨.none, he⟩, hit, Nat.succ_ne_self _⟩, fun b hb => ?_, q⟩
      have e' : b = s1.heap.objs.size + 1 ∨ b = s1.heap.objs.size := by simpa using hb
      have hle : s1.heap.objs.size ≤ b := by
        rcases e' with z | z
        · rw [z]; exact Nat.le_add_right _ _
        · rw [z]; exact Nat.le_refl _
      exact I1.fpOk hle (I1.hok.fresh hle)
theorem walk_enumT {K : PySem.W.Frag} {a : Addr} {xs : List V} : Walk (Iet K a) xs.length (fun H => SqT K H a xs) (YPair (fun i => some (.int (i : Nat))) (fun i => xs[i]?)) :=
  ⟨fun i H hi h => ⟨xs, xs[i], h, by simp [hi]⟩, fun H h => ⟨xs, h, rfl⟩, fun i H x H' hi h ⟨T, y, h1, h2, h3, h4⟩ => ⟨T, _, y, h1, h2, h3, rfl, h4 xs h⟩⟩
theorem enumL_get : ∀ {ds : List D} {k i : Nat}, (enumL k ds)[i]? = (ds[i]?).map fun d => .tup [.int ((k + i : Nat) : Int), d]
  | [], k, i => by simp [enumL]
  | d :: ds, k, 0 => by simp [enumL]
  | d :: ds, k, i + 1 => by
    simp only [enumL, List.getElem?_cons_succ]
    rw [enumL_get]
    have : k + 1 + i = k + (i + 1) := by omega
    rw [this]
theorem enumL_len : ∀ {ds : List D} {k : Nat}, (enumL k ds).length = ds.length
  | [], k => rfl
  | d :: ds, k => by simp [enumL, enumL_len]
theorem enumWalk {W : Wo} {H : Hp} {J : L2.It} {G : Hp → Prop} {ds : List D} {xs : List V} (hr : g.Reps W H ds xs) (w : Walk J xs.length G (YPair (fun i => some (.int (i : Nat))) (fun i => xs[i]?))) (hG : ∀ W' H', Lo W H W' H' → G H') : rlI g H W H (enumL 0 ds) J := by
  refine ⟨xs.length, G, _, w, by rw [enumL_len, hr.len], hG, fun i x W2 H2 S2 H' hi l s2 hy => ?_⟩
  obtain ⟨T, x1, x2, rfl, hn, rfl, h1, h2⟩ := hy
  cases h1
  have hi' : i < ds.length := by rw [← hr.len]; exact hi
  obtain ⟨v, hv, rv⟩ := hr.get (i := i) (d := ds[i]) (by simp [hi'])
  have h2' : xs[i]? = some x2 := h2
  rw [h2'] at hv
  cases hv
  have rs : g.Reps W2 H2 [.int (i : Int), ds[i]] [.int (i : Int), x2] := by
    simp only [Reps]
    exact ⟨_, _, rfl, by simp only [Rep], _, _, rfl, Rep.lo l rv, rfl⟩
  obtain ⟨e, s, r⟩ := newTup s2 rs hn
  refine ⟨_, _, e, s, ?_, r⟩
  rw [enumL_get]
  simp [hi']
theorem i_enum {elts : List Expr} {kk : Nat} {tpos : Pos} (hK : X.K = g.K) (hg : Gl X "enumerate") (hm : X.mg "enumerate" = none) (ha : PE X e (rd g Wx H₀ (rlR g) fa)) (hs : starEach [e] X.env = [(false, eval e X.env)] := by rfl) :
    PI X (.Tuple elts kk tpos) (.Call (.Name "enumerate" p) [e] [] pos) (rd g Wx H₀ (rlI g) (iEnum fa)) :=
  (pi_enumS hg hm (pa_cons ha pa_nil hs) hs).imp fun σ H R ⟨W, ρ, S, st, en, h⟩ => step monoI st en h fun x W1 H1 S1 d e1 s1 n1 p1 h1 => by
    obtain ⟨ds, ed, h2⟩ := h1.opt
    cases es : seqF d with
    | none => rw [es] at ed; cases ed
    | some ds' =>
      rw [es] at ed
      cases ed
      obtain ⟨a, xs, rfl, hr, hs⟩ := seqWalk s1 p1 es
      refine ⟨a, rfl, ?_⟩
      rw [hK]
      rcases hs with ⟨h3, h4⟩ | ⟨h3, h4⟩
      · exact .inl ⟨⟨xs, h3⟩, h2 _ W1 H1 Ext.refl s1 (enumWalk hr walk_enum h4)⟩
      · exact .inr ⟨⟨xs, h3⟩, h2 _ W1 H1 Ext.refl s1 (enumWalk hr walk_enumT h4)⟩
end
end DL

set_option Elab.async false
set_option linter.all false
set_option maxRecDepth 100000
set_option maxHeartbeats 2000000
/-! DL, part L: calls of built-in functions, types, methods. -/
namespace DL
open PySem PySem.Spec PyProof.Rows L2 NdefX
/-! ### arguments that are read in place -/
def RepPs (g : Gb) (W : Wo) (H : Hp) : List D → List V → Prop
  | [], xs => xs = []
  | d :: ds, xs => ∃ v r, xs = v :: r ∧ RepP g.K g.mg W H d v ∧ RepPs g W H ds r
def rlQ (g : Gb) (n : Nat) : Rl (List D) (List V) := fun _ W H d v => RepPs g W H d v ∧ d.length = n
theorem monoQ {g : Gb} {n : Nat} : Mono (rlQ g n) := fun _ _ _ _ _ _ _ h => h
theorem RepPs.ext {g : Gb} {W W' : Wo} {H H' : Hp} {S : Sto} (e : Ext W H W' H') (s : g.Sta W H S) : ∀ {ds : List D} {vs : List V}, RepPs g W H ds vs → RepPs g W' H' ds vs
  | [], _, h => h
  | d :: ds, _, ⟨v, r, h1, h2, h3⟩ => ⟨v, r, h1, RepP.ext e s h2, RepPs.ext e s h3⟩
section
variable {X : Cx} {g : Gb} {Wx : WX} {H₀ : Hp} {a e o : Expr} {es : List Expr} {f fa : Ev} {fs : Evs} {n : Nat} {pos p apos : Pos} {P : Rl D V} {x : Str} {id T : String}
theorem q_nil : PA X [] (rd g Wx H₀ (rlQ g 0) eNil) := pa_nil.imp fun σ H Q ⟨W, ρ, S, st, en, h⟩ => h [] W H Ext.refl st ⟨rfl, rfl⟩
theorem q_cons (ha : PE X a (rd g Wx H₀ (rlP g) fa)) (hr : PA X es (rd g Wx H₀ (rlQ g n) fs)) (hs : starEach (a :: es) X.env = (false, eval a X.env) :: starEach es X.env := by rfl) : PA X (a :: es) (rd g Wx H₀ (rlQ g (n + 1)) (eCons fa fs)) :=
  (pa_cons ha hr hs).imp fun σ H Q ⟨W, ρ, S, st, en, h⟩ => step monoQ st en h fun x W1 H1 S1 d e1 s1 n1 p1 h1 => step monoQ s1 n1 h1 fun xs W2 H2 S2 ds e2 s2 n2 p2 h2 =>
    h2 _ W2 H2 Ext.refl s2 ⟨⟨x, xs, rfl, RepP.ext e2 s1 p1, p2.1⟩, by rw [List.length_cons, p2.2]⟩
/-- what a built-in gives -/
def CallD (g : Gb) (X : Cx) (F : Value) (P : Rl D V) (o : Sto → List D → Option D) : Prop :=
  ∃ r, CallR X F r ∧ ∀ W H S ds z vs Q, g.Sta W H S → RepPs g W H ds vs → o S ds = some z → (∀ v W' H', Ext W H W' H' → g.Sta W' H' S → P H W' H' z v → Q v H') → r vs H Q
theorem d_callB {o : Sto → List D → Option D} (hP : Mono P) (hc : CallD g X (.builtin id) P o) (hg : Gl X x) (hm : X.mg x = none) (hv : bootBuiltins x = some (.builtin id)) (ha : PA X (e :: es) (rd g Wx H₀ (rlQ g n) fs)) (hn : x ≠ "__name__" := by decide) (hdb : (x == ("__debug__" : Str)) = false := by decide)
    (he : starEach (e :: es) X.env = (false, eval e X.env) :: starEach es X.env := by rfl) (hpl : (backTo pos (starEach es X.env)).any (·.1) = false := by rfl) : PE X (.Call (.Name x p) (e :: es) [] pos) (rd g Wx H₀ P (eN o fs)) := by
  obtain ⟨r, hr, im⟩ := hc
  exact (pe_callB hr hg hm hv ha hn hdb he hpl).imp fun σ H Q ⟨W, ρ, S, st, en, h⟩ => step hP st en h fun xs W1 H1 S1 ds e1 s1 n1 p1 h1 => by
    obtain ⟨z, ez, h2⟩ := h1.opt
    exact im W1 H1 S1 ds z xs Q s1 p1.1 ez h2
theorem d_callTy {o : Sto → List D → Option D} (hP : Mono P) (hc : CallD g X (.type T) P o) (hg : Gl X x) (hm : X.mg x = none) (hv : bootBuiltins x = some (.type T)) (ha : PA X (e :: es) (rd g Wx H₀ (rlQ g n) fs)) (hn : x ≠ "__name__" := by decide) (hdb : (x == ("__debug__" : Str)) = false := by decide)
    (he : starEach (e :: es) X.env = (false, eval e X.env) :: starEach es X.env := by rfl) (hpl : (backTo pos (starEach es X.env)).any (·.1) = false := by rfl) : PE X (.Call (.Name x p) (e :: es) [] pos) (rd g Wx H₀ P (eN o fs)) := by
  obtain ⟨r, hr, im⟩ := hc
  exact (pe_callTy hr hg hm hv ha hn hdb he hpl).imp fun σ H Q ⟨W, ρ, S, st, en, h⟩ => step hP st en h fun xs W1 H1 S1 ds e1 s1 n1 p1 h1 => by
    obtain ⟨z, ez, h2⟩ := h1.opt
    exact im W1 H1 S1 ds z xs Q s1 p1.1 ez h2
theorem d_callTy0 {o : Sto → List D → Option D} (hP : Mono P) (hc : CallD g X (.type T) P o) (hg : Gl X x) (hm : X.mg x = none) (hv : bootBuiltins x = some (.type T)) (hn : x ≠ "__name__" := by decide) (hdb : (x == ("__debug__" : Str)) = false := by decide) :
    PE X (.Call (.Name x p) [] [] pos) (rd g Wx H₀ P (eN o eNil)) := by
  obtain ⟨r, hr, im⟩ := hc
  refine (pe_callTy0 hr hg hm hv hn hdb).imp fun σ H Q ⟨W, ρ, S, st, en, h⟩ => ?_
  have h : rdp g Wx P σ W H (opt (o S []) S) Q := h
  obtain ⟨z, ez, h2⟩ := h.opt
  exact im W H S [] z [] Q st rfl ez h2
end
/-! ### scalars -/
section
variable {X : Cx} {g : Gb}
theorem RepPs.one {W : Wo} {H : Hp} {d : D} {vs : List V} (h : RepPs g W H [d] vs) : ∃ v, vs = [v] ∧ RepP g.K g.mg W H d v := by
  obtain ⟨v, r, rfl, hv, rfl⟩ := h
  exact ⟨v, rfl, hv⟩
theorem RepPs.two {W : Wo} {H : Hp} {d e : D} {vs : List V} (h : RepPs g W H [d, e] vs) : ∃ v w, vs = [v, w] ∧ RepP g.K g.mg W H d v ∧ RepP g.K g.mg W H e w := by
  obtain ⟨v, r, rfl, hv, w, r', rfl, hw, rfl⟩ := h
  exact ⟨v, w, rfl, hv, hw⟩
def absC (_ : Sto) : List D → Option D
  | [.int i] => some (.int (if i < 0 then -i else i))
  | _ => none
theorem c_abs : CallD g X (.builtin "abs") (rlR g) absC := ⟨_, call_abs, fun W H S ds z vs Q st r e k => by
  unfold absC at e
  split at e
  · cases e
    obtain ⟨v, rfl, rv⟩ := r.one
    exact ⟨_, by rw [rv.int], k _ W H Ext.refl st (by simp only [rlR, Rep])⟩
  · cases e⟩
def intC (_ : Sto) : List D → Option D
  | [.int i] => some (.int i)
  | [.bl b] => some (.int (if b then 1 else 0))
  | _ => none
theorem c_int : CallD g X (.type "int") (rlR g) intC := ⟨_, call_int1, fun W H S ds z vs Q st r e k => by
  unfold intC at e
  split at e
  · cases e
    obtain ⟨v, rfl, rv⟩ := r.one
    exact .inl ⟨_, by rw [rv.int], k _ W H Ext.refl st (by simp only [rlR, Rep])⟩
  · cases e
    obtain ⟨v, rfl, rv⟩ := r.one
    exact .inr ⟨_, by rw [rv.bl], k _ W H Ext.refl st (by simp only [rlR, Rep])⟩
  · cases e⟩
def max2C (_ : Sto) : List D → Option D
  | [.int i, .int j] => some (.int (if j > i then j else i))
  | _ => none
def min2C (_ : Sto) : List D → Option D
  | [.int i, .int j] => some (.int (if j < i then j else i))
  | _ => none
theorem c_max2 (hc : X.calm = true) : CallD g X (.builtin "max") (rlR g) max2C := ⟨_, call_max2 hc, fun W H S ds z vs Q st r e k => by
  unfold max2C at e
  split at e
  · cases e
    obtain ⟨v, w, rfl, rv, rw'⟩ := r.two
    exact ⟨_, _, by rw [rv.int, rw'.int], k _ W H Ext.refl st (by simp only [rlR, Rep])⟩
  · cases e⟩
theorem c_min2 (hc : X.calm = true) : CallD g X (.builtin "min") (rlR g) min2C := ⟨_, call_min2 hc, fun W H S ds z vs Q st r e k => by
  unfold min2C at e
  split at e
  · cases e
    obtain ⟨v, w, rfl, rv, rw'⟩ := r.two
    exact ⟨_, _, by rw [rv.int, rw'.int], k _ W H Ext.refl st (by simp only [rlR, Rep])⟩
  · cases e⟩
def divmodC (_ : Sto) : List D → Option D
  | [.int i, .int j] => if 0 < j ∧ j < 1073741824 then some (.tup [.int (i / j), .int (i % j)]) else none
  | _ => none
theorem c_divmod : CallD g X (.builtin "divmod") (rlR g) divmodC := ⟨_, call_divmod, fun W H S ds z vs Q st r e k => by
  unfold divmodC at e
  split at e
  · split at e
    · rename_i hb
      cases e
      obtain ⟨v, w, rfl, rv, rw'⟩ := r.two
      refine ⟨_, _, by rw [rv.int, rw'.int], hb, fun p hp => ?_⟩
      rename_i i j
      have rs : g.Reps W H [.int (i / j), .int (i % j)] [.int (i / j), .int (i % j)] := by
        simp only [Reps]
        exact ⟨_, _, rfl, by simp only [Rep], _, _, rfl, by simp only [Rep], rfl⟩
      obtain ⟨e1, s1, r1⟩ := newTup st rs hp
      exact k _ _ _ e1 s1 r1
    · cases e
  · cases e⟩
/-- len -/
def lenS (S : Sto) : D → Option Nat
  | .str x => some x.length
  | .dic kvs => some kvs.length
  | .scr ns => some ns.length
  | d => (seqS S d).map List.length
def lenC (S : Sto) : List D → Option D
  | [d] => (lenS S d).map fun n => .int (n : Int)
  | _ => none
theorem callR_or {f : Value} {r r' : List V → Hp → VK → Prop} (h : CallR X f r) (h' : CallR X f r') : CallR X f (fun xs H Q => r xs H Q ∨ r' xs H Q) := fun pins s σ H xs us Q I rv q => q.elim (h pins s σ H xs us Q I rv) (h' pins s σ H xs us Q I rv)
theorem RepKs.len {W : Wo} {H : Hp} : ∀ {ds : List (D × D)} {xs : List (Key × V)}, RepKs g.K g.mg W H ds xs → xs.length = ds.length
  | [], _, h => by simp only [RepKs] at h; rw [h]; rfl
  | (k, d) :: ds, _, h => by
    simp only [RepKs] at h
    obtain ⟨k', v, r, rfl, _, _, h⟩ := h
    rw [List.length_cons, List.length_cons, RepKs.len h]
theorem c_len (hK : X.K = g.K) : CallD g X (.builtin "len") (rlR g) lenC := ⟨_, callR_or call_len call_lenD, fun W H S ds z vs Q st r e k => by
  unfold lenC at e
  split at e
  · rename_i d
    obtain ⟨v, rfl, rv⟩ := r.one
    cases el : lenS S d with
    | none => rw [el] at e; cases e
    | some n =>
      rw [el] at e
      cases e
      have kk : Q (.int n) H := k _ W H Ext.refl st (by simp only [rlR, Rep])
      have seq : ∀ {ds}, seqS S d = some ds → ds.length = n → ∃ x m, [v] = [x] ∧ LenV X.K x H m ∧ Q (.int m) H := fun {ds} hs hn => by
        obtain ⟨a, xs, rfl, h1, h2⟩ := seqP st rv hs
        refine ⟨_, n, rfl, ?_, kk⟩
        rw [hK]
        rcases h1 with h1 | h1
        · exact .inl ⟨xs, .of h1, by rw [h2.len, hn]⟩
        · exact .inr ⟨xs, h1, by rw [h2.len, hn]⟩
      cases d with
      | str x =>
        cases el
        obtain ⟨rfl, hx⟩ := rv.str
        exact .inl ⟨_, _, rfl, ⟨by rw [sizeLine_eq]; simpa [Str.length] using hx.1, by simp [Str.length]⟩, kk⟩
      | dic kvs =>
        cases el
        obtain ⟨a, xs, rfl, h1, h2⟩ := rv.dic
        exact .inr ⟨a, xs, rfl, h1, by rw [h2.len]; exact kk⟩
      | tup ds => cases el; exact .inl (seq rfl rfl)
      | lst ds => cases el; exact .inl (seq rfl rfl)
      | obj l =>
        have el2 : (seqS S (.obj l)).map List.length = some n := el
        cases es : seqS S (.obj l) with
        | none => rw [es] at el2; cases el2
        | some ds => rw [es] at el2; cases el2; exact .inl (seq es rfl)
      | scr ns =>
        have el2 : some ns.length = some n := el
        cases el2
        obtain ⟨p, rfl, hx⟩ := rv.scr
        exact .inl ⟨_, ns.length, rfl, by rw [hK]; exact .inl ⟨_, hx, by simp⟩, kk⟩
      | _ => cases el
  · cases e⟩
end
end DL

set_option Elab.async false
set_option linter.all false
set_option maxRecDepth 100000
set_option maxHeartbeats 2000000
/-! DL, part M: isinstance, list, tuple, all, any, sum, min, max; methods of texts, lists. -/
namespace DL
open PySem PySem.Spec PyProof.Rows L2 NdefX
section
variable {g : Gb} {W : Wo} {H : Hp}
theorem RepP.non {v : V} (h : RepP g.K g.mg W H .non v) : v = .non := by
  rcases h with r | ⟨_, _, _, r⟩
  · simpa only [Rep] using r
  · exact r.elim
theorem RepP.obj {l : Nat} {v : V} (h : RepP g.K g.mg W H (.obj l) v) : ∃ a, v = .ref a ∧ W.m[l]? = some a := by
  rcases h with r | ⟨_, _, _, r⟩
  · simpa only [Rep] using r
  · exact r.elim
end
/-! ### isinstance -/
inductive Ty where
  | non | bl | int | str | tup | lst | dic
deriving DecidableEq
def Ty.nm : Ty → String
  | .non => "NoneType"
  | .bl => "bool"
  | .int => "int"
  | .str => "str"
  | .tup => "tuple"
  | .lst => "list"
  | .dic => "dict"
def tyS (S : Sto) : D → Option Ty
  | .non => some .non
  | .bl _ => some .bl
  | .int _ => some .int
  | .str _ => some .str
  | .tup _ => some .tup
  | .lst _ => some .lst
  | .dic _ => some .dic
  | .obj l => (match S[l]? with
    | some (.lst _) => some .lst
    | some (.dic _) => some .dic
    | _ => none)
  | .fn _ => none
  | .scr _ => none
def isTy (T t : Ty) : Bool := t == T || (t == .bl && T == .int)
def isiS (T : Ty) (S : Sto) (d : D) : Option D := (tyS S d).map fun t => .bl (isTy T t)
section
variable {X : Cx} {g : Gb} {Wx : WX} {H₀ : Hp} {a e o : Expr} {es : List Expr} {f fa : Ev} {fs : Evs} {n : Nat} {pos p apos : Pos} {P : Rl D V} {x : Str} {id T : String}
theorem kit_is (T t : Ty) (h : T ≠ .non) : kitB t.nm T.nm = some (isTy T t) := by
  cases T <;> cases t <;> first | exact absurd rfl h | decide +kernel
theorem ty_at {W : Wo} {H : Hp} {S : Sto} (hK : X.K = g.K) (st : g.Sta W H S) {d : D} {v : V} {t : Ty} (r : RepP g.K g.mg W H d v) (e : tyS S d = some t) : TyX X.K H v (.type t.nm) := by
  rw [hK]
  have tupC : ∀ {a xs}, SqT g.K H a xs → TyX g.K H (.ref a) (.type "tuple") := fun {a xs} h => by
    rcases h with h | ⟨o, its, n, h1, h2, _⟩
    · rcases h with h | ⟨o, h⟩
      · exact .base (.tup h)
      · exact .fTuple h
    · exact .kTuple h1 h2
  cases d with
  | non => cases e; rw [r.non]; exact .base .non
  | bl b => cases e; rw [r.bl]; exact .base (.bl b)
  | int i => cases e; rw [r.int]; exact .base (.int i)
  | str z => cases e; rw [r.str.1]; exact .base (.str _)
  | tup ds =>
    cases e
    obtain ⟨a, xs, rfl, h, _, _⟩ := r.tup
    exact tupC h
  | lst ds =>
    cases e
    obtain ⟨a, xs, rfl, h, _⟩ := r.lst
    exact .base (.lst h)
  | dic ds =>
    cases e
    obtain ⟨a, xs, rfl, h, _⟩ := r.dic
    exact .base (.dK h)
  | obj l =>
    have e : (match S[l]? with
      | some (.lst _) => some Ty.lst
      | some (.dic _) => some .dic
      | _ => none) = some t := e
    obtain ⟨a, rfl, ha⟩ := r.obj
    cases ec : S[l]? with
    | none => rw [ec] at e; cases e
    | some c =>
      rw [ec] at e
      have hc := st.cells l c a ec ha
      cases c with
      | lst ds =>
        cases e
        obtain ⟨xs, h, _⟩ := hc
        exact .base (.lst h)
      | dic ds =>
        cases e
        obtain ⟨xs, h, _⟩ := hc
        exact .base (.dK h)
      | ins c fs => cases e
  | fn z => cases e
  | scr z => cases e
theorem pe_ty {x : Str} {T : String} {p : Pos} (hg : Gl X x) (hm : X.mg x = none) (hv : bootBuiltins x = some (.type T)) (hn : x ≠ "__name__" := by decide) (hdb : (x == ("__debug__" : Str)) = false := by decide) : PE X (.Name x p) (tC (.ty T)) := pe_bltn hg hm hv rfl hn hdb
theorem d_isi {T : Ty} (hT : T ≠ .non) (hK : X.K = g.K) (hg : Gl X "isinstance") (hm : X.mg "isinstance" = none) {p2 : Pos} (hg2 : Gl X x) (hm2 : X.mg x = none) (hv2 : bootBuiltins x = some (.type T.nm)) (ha : PE X e (rd g Wx H₀ (rlP g) f))
    (hn : x ≠ "__name__" := by decide) (hdb : (x == ("__debug__" : Str)) = false := by decide)
    (hs : starEach [e, .Name x p2] X.env = (false, eval e X.env) :: starEach [.Name x p2] X.env := by rfl) (hpl : (backTo pos (starEach [.Name x p2] X.env)).any (·.1) = false := by rfl) :
    PE X (.Call (.Name "isinstance" p) [e, .Name x p2] [] pos) (rd g Wx H₀ (rlR g) (e1 (isiS T) f)) :=
  (pe_callB call_isi hg hm (by rfl) (pa_cons ha (pa_cons (pe_ty hg2 hm2 hv2 hn hdb) pa_nil) hs) (by decide) (by decide) hs hpl).imp fun σ H Q ⟨W, ρ, S, st, en, h⟩ => step monoR st en h fun x W1 H1 S1 d e1 s1 n1 p1 h1 => by
    obtain ⟨z, ez, h2⟩ := h1.opt
    unfold isiS at ez
    cases et : tyS S1 d with
    | none => rw [et] at ez; cases ez
    | some t =>
      rw [et] at ez
      cases ez
      exact ⟨x, .ty T.nm, _, _, _, rfl, .ty _, ty_at hK s1 p1 et, kit_ty (kit_is T t hT), h2 _ W1 H1 Ext.refl s1 (by simp only [rlR, Rep])⟩
end
/-! ### list, tuple, all, any, sum -/
section
variable {X : Cx} {g : Gb}
def listC (S : Sto) : List D → Option D
  | [d] => (seqS S d).map .lst
  | _ => none
theorem c_list (hK : X.K = g.K) : CallD g X (.type "list") (rlF g) listC := ⟨_, call_list_of, fun W H S ds z vs Q st r e k => by
  unfold listC at e
  split at e
  · obtain ⟨v, rfl, rv⟩ := r.one
    rename_i d
    cases es : seqS S d with
    | none => rw [es] at e; cases e
    | some xs =>
      rw [es] at e
      cases e
      obtain ⟨a, vs, rfl, h1, h2⟩ := seqP st rv es
      refine ⟨a, vs, rfl, by rw [hK]; exact seqSq h1, fun l hl => ?_⟩
      obtain ⟨e1, s1, f1⟩ := newLst st h2 hl
      exact k _ _ _ e1 s1 f1
  · cases e⟩
def tupleC (S : Sto) : List D → Option D
  | [d] => (seqS S d).map .tup
  | _ => none
theorem c_tuple (hK : X.K = g.K) : CallD g X (.type "tuple") (rlR g) tupleC := ⟨_, call_tuple_of, fun W H S ds z vs Q st r e k => by
  unfold tupleC at e
  split at e
  · obtain ⟨v, rfl, rv⟩ := r.one
    rename_i d
    cases es : seqS S d with
    | none => rw [es] at e; cases e
    | some xs =>
      rw [es] at e
      cases e
      have viaL : (∃ a vs, v = .ref a ∧ H a = some (.lst vs) ∧ g.Reps W H xs vs) → ∃ p ys, [v] = [.ref p] ∧ ((SqL X.K H p ys ∧ ∀ l, H l = none → Q (.ref l) (upd H l (.tup ys))) ∨ (SqT X.K H p ys ∧ Q (.ref p) H)) := by
        rintro ⟨a, vs, rfl, h1, h2⟩
        refine ⟨a, vs, rfl, .inl ⟨.of h1, fun l hl => ?_⟩⟩
        obtain ⟨e1, s1, f1⟩ := newTup st h2 hl
        exact k _ _ _ e1 s1 f1
      cases d with
      | tup ds =>
        cases es
        obtain ⟨a, vs, rfl, h1, h2, h3⟩ := rv.tup
        exact ⟨a, vs, rfl, .inr ⟨by rw [hK]; exact h1, k _ _ _ Ext.refl st h3⟩⟩
      | lst ds => cases es; exact viaL rv.lst
      | obj l =>
        have es' : (match S[l]? with
          | some (.lst ds) => some ds
          | _ => none) = some xs := es
        obtain ⟨a, rfl, ha⟩ := rv.obj
        cases ec : S[l]? with
        | none => rw [ec] at es'; cases es'
        | some c =>
          rw [ec] at es'
          cases c with
          | lst ds =>
            cases es'
            obtain ⟨ys, h1, h2⟩ := st.cells l _ a ec ha
            exact viaL ⟨a, ys, rfl, h1, h2⟩
          | _ => cases es'
      | _ => cases es
  · cases e⟩
def bls : List D → Option (List Bool)
  | [] => some []
  | .bl b :: ds => (bls ds).map (b :: ·)
  | _ => none
theorem bls_rep {W : Wo} {H : Hp} : ∀ {ds : List D} {bs : List Bool} {vs : List V}, bls ds = some bs → g.Reps W H ds vs → vs = bs.map V.bl
  | [], bs, vs, e, r => by cases e; simpa only [Reps, List.map_nil] using r
  | .bl b :: ds, bs, vs, e, r => by
    simp only [Reps] at r
    obtain ⟨v, r', rfl, h1, h2⟩ := r
    simp only [bls] at e
    cases e2 : bls ds with
    | none => rw [e2] at e; cases e
    | some bs' =>
      rw [e2] at e
      cases e
      rw [bls_rep e2 h2, Rep.bl (g := g) h1]
      rfl
  | .non :: _, _, _, e, _ => by cases e
  | .int _ :: _, _, _, e, _ => by cases e
  | .str _ :: _, _, _, e, _ => by cases e
  | .tup _ :: _, _, _, e, _ => by cases e
  | .lst _ :: _, _, _, e, _ => by cases e
  | .dic _ :: _, _, _, e, _ => by cases e
  | .obj _ :: _, _, _, e, _ => by cases e
  | .fn _ :: _, _, _, e, _ => by cases e
  | .scr _ :: _, _, _, e, _ => by cases e
def ins : List D → Option (List Int)
  | [] => some []
  | .int b :: ds => (ins ds).map (b :: ·)
  | _ => none
theorem ins_rep {W : Wo} {H : Hp} : ∀ {ds : List D} {bs : List Int} {vs : List V}, ins ds = some bs → g.Reps W H ds vs → vs = bs.map V.int
  | [], bs, vs, e, r => by cases e; simpa only [Reps, List.map_nil] using r
  | .int b :: ds, bs, vs, e, r => by
    simp only [Reps] at r
    obtain ⟨v, r', rfl, h1, h2⟩ := r
    simp only [ins] at e
    cases e2 : ins ds with
    | none => rw [e2] at e; cases e
    | some bs' =>
      rw [e2] at e
      cases e
      rw [ins_rep e2 h2, show v = V.int b from by simpa only [Rep] using h1]
      rfl
  | .non :: _, _, _, e, _ => by cases e
  | .bl _ :: _, _, _, e, _ => by cases e
  | .str _ :: _, _, _, e, _ => by cases e
  | .tup _ :: _, _, _, e, _ => by cases e
  | .lst _ :: _, _, _, e, _ => by cases e
  | .dic _ :: _, _, _, e, _ => by cases e
  | .obj _ :: _, _, _, e, _ => by cases e
  | .fn _ :: _, _, _, e, _ => by cases e
  | .scr _ :: _, _, _, e, _ => by cases e
def txs : List D → Option (List (List Nat))
  | [] => some []
  | .str b :: ds => (txs ds).map (b :: ·)
  | _ => none
theorem txs_rep {W : Wo} {H : Hp} : ∀ {ds : List D} {bs : List (List Nat)} {vs : List V}, txs ds = some bs → g.Reps W H ds vs → vs = bs.map strV ∧ ∀ b ∈ bs, sOk b
  | [], bs, vs, e, r => by cases e; exact ⟨by simpa only [Reps, List.map_nil] using r, by simp⟩
  | .str b :: ds, bs, vs, e, r => by
    simp only [Reps] at r
    obtain ⟨v, r', rfl, h1, h2⟩ := r
    simp only [txs] at e
    cases e2 : txs ds with
    | none => rw [e2] at e; cases e
    | some bs' =>
      rw [e2] at e
      cases e
      simp only [Rep] at h1
      obtain ⟨h3, h4⟩ := txs_rep e2 h2
      refine ⟨by rw [h3, h1.1]; rfl, fun c hc => ?_⟩
      rcases List.mem_cons.mp hc with z | z
      · rw [z]; exact h1.2
      · exact h4 c z
  | .non :: _, _, _, e, _ => by cases e
  | .bl _ :: _, _, _, e, _ => by cases e
  | .int _ :: _, _, _, e, _ => by cases e
  | .tup _ :: _, _, _, e, _ => by cases e
  | .lst _ :: _, _, _, e, _ => by cases e
  | .dic _ :: _, _, _, e, _ => by cases e
  | .obj _ :: _, _, _, e, _ => by cases e
  | .fn _ :: _, _, _, e, _ => by cases e
  | .scr _ :: _, _, _, e, _ => by cases e
/-- of a list of bools (ints) -/
def ofBls (k : List Bool → D) (_ : Sto) : List D → Option D
  | [.lst ds] => (bls ds).map k
  | _ => none
theorem c_all (hK : X.K = g.K) (hc : X.calm = true) : CallD g X (.builtin "all") (rlR g) (ofBls fun bs => .bl (bs.all id)) := ⟨_, cr_all hc, fun W H S ds z vs Q st r e k => by
  unfold ofBls at e
  split at e
  · obtain ⟨v, rfl, rv⟩ := r.one
    rename_i ds
    cases es : bls ds with
    | none => rw [es] at e; cases e
    | some bs =>
      rw [es] at e
      cases e
      obtain ⟨a, xs, rfl, h1, h2⟩ := rv.lst
      have := bls_rep es h2
      subst this
      exact ⟨a, bs, rfl, .of h1, k _ _ _ Ext.refl st (by simp only [rlR, Rep])⟩
  · cases e⟩
theorem c_any (hK : X.K = g.K) (hc : X.calm = true) : CallD g X (.builtin "any") (rlR g) (ofBls fun bs => .bl (bs.any id)) := ⟨_, cr_any hc, fun W H S ds z vs Q st r e k => by
  unfold ofBls at e
  split at e
  · obtain ⟨v, rfl, rv⟩ := r.one
    rename_i ds
    cases es : bls ds with
    | none => rw [es] at e; cases e
    | some bs =>
      rw [es] at e
      cases e
      obtain ⟨a, xs, rfl, h1, h2⟩ := rv.lst
      have := bls_rep es h2
      subst this
      exact ⟨a, bs, rfl, .of h1, k _ _ _ Ext.refl st (by simp only [rlR, Rep])⟩
  · cases e⟩
def sumC (_ : Sto) : List D → Option D
  | [.lst ds] => (ins ds).map fun ns => .int ns.sum
  | _ => none
theorem c_sum (hK : X.K = g.K) (hc : X.calm = true) : CallD g X (.builtin "sum") (rlR g) sumC := ⟨_, cr_sum hc, fun W H S ds z vs Q st r e k => by
  unfold sumC at e
  split at e
  · obtain ⟨v, rfl, rv⟩ := r.one
    rename_i ds
    cases es : ins ds with
    | none => rw [es] at e; cases e
    | some bs =>
      rw [es] at e
      cases e
      obtain ⟨a, xs, rfl, h1, h2⟩ := rv.lst
      have := ins_rep es h2
      subst this
      exact ⟨a, bs, rfl, .of h1, k _ _ _ Ext.refl st (by simp only [rlR, Rep])⟩
  · cases e⟩
def maxI : List Int → Option Int
  | [] => none
  | i :: is => some (is.foldl (fun m j => if j > m then j else m) i)
def minI : List Int → Option Int
  | [] => none
  | i :: is => some (is.foldl (fun m j => if j < m then j else m) i)
theorem foldMax : ∀ (is : List Int) (i : Int), (is.foldl (fun m j => if j > m then j else m) i ∈ i :: is) ∧ ∀ y ∈ i :: is, y ≤ is.foldl (fun m j => if j > m then j else m) i
  | [], i => ⟨by simp, by simp⟩
  | j :: is, i => by
    simp only [List.foldl_cons]
    obtain ⟨h1, h2⟩ := foldMax is (if j > i then j else i)
    refine ⟨?_, fun y hy => ?_⟩
    · rcases List.mem_cons.mp h1 with z | z
      · rw [z]; split <;> simp
      · exact List.mem_cons_of_mem _ (List.mem_cons_of_mem _ z)
    · have h0 := h2 _ (List.mem_cons_self ..)
      have hi : i ≤ (if j > i then j else i) := by split <;> omega
      have hj : j ≤ (if j > i then j else i) := by split <;> omega
      rcases List.mem_cons.mp hy with z | z
      · rw [z]; exact Int.le_trans hi h0
      · rcases List.mem_cons.mp z with z | z
        · rw [z]; exact Int.le_trans hj h0
        · exact h2 y (List.mem_cons_of_mem _ z)
theorem foldMin : ∀ (is : List Int) (i : Int), (is.foldl (fun m j => if j < m then j else m) i ∈ i :: is) ∧ ∀ y ∈ i :: is, is.foldl (fun m j => if j < m then j else m) i ≤ y
  | [], i => ⟨by simp, by simp⟩
  | j :: is, i => by
    simp only [List.foldl_cons]
    obtain ⟨h1, h2⟩ := foldMin is (if j < i then j else i)
    refine ⟨?_, fun y hy => ?_⟩
    · rcases List.mem_cons.mp h1 with z | z
      · rw [z]; split <;> simp
      · exact List.mem_cons_of_mem _ (List.mem_cons_of_mem _ z)
    · have h0 := h2 _ (List.mem_cons_self ..)
      have hi : (if j < i then j else i) ≤ i := by split <;> omega
      have hj : (if j < i then j else i) ≤ j := by split <;> omega
      rcases List.mem_cons.mp hy with z | z
      · rw [z]; exact Int.le_trans h0 hi
      · rcases List.mem_cons.mp z with z | z
        · rw [z]; exact Int.le_trans h0 hj
        · exact h2 y (List.mem_cons_of_mem _ z)
def ofIns (k : List Int → Option Int) (_ : Sto) : List D → Option D
  | [.lst ds] => (ins ds).bind fun ns => (k ns).map .int
  | _ => none
theorem c_max (hK : X.K = g.K) (hc : X.calm = true) : CallD g X (.builtin "max") (rlR g) (ofIns maxI) := ⟨_, cr_max hc, fun W H S ds z vs Q st r e k => by
  unfold ofIns at e
  split at e
  · obtain ⟨v, rfl, rv⟩ := r.one
    rename_i ds
    cases es : ins ds with
    | none => rw [es] at e; cases e
    | some bs =>
      rw [es] at e
      cases bs with
      | nil => cases e
      | cons b bs =>
        cases e
        obtain ⟨a, xs, rfl, h1, h2⟩ := rv.lst
        have := ins_rep es h2
        subst this
        refine ⟨a, _, rfl, .of h1, by simp, fun m hm hu => k _ _ _ Ext.refl st ?_⟩
        obtain ⟨h3, h4⟩ := foldMax bs b
        have : m = bs.foldl (fun m j => if j > m then j else m) b := Int.le_antisymm (h4 m hm) (hu _ h3)
        simp only [rlR, Rep, this]
  · cases e⟩
theorem c_min (hK : X.K = g.K) (hc : X.calm = true) : CallD g X (.builtin "min") (rlR g) (ofIns minI) := ⟨_, cr_min hc, fun W H S ds z vs Q st r e k => by
  unfold ofIns at e
  split at e
  · obtain ⟨v, rfl, rv⟩ := r.one
    rename_i ds
    cases es : ins ds with
    | none => rw [es] at e; cases e
    | some bs =>
      rw [es] at e
      cases bs with
      | nil => cases e
      | cons b bs =>
        cases e
        obtain ⟨a, xs, rfl, h1, h2⟩ := rv.lst
        have := ins_rep es h2
        subst this
        refine ⟨a, _, rfl, .of h1, by simp, fun m hm hu => k _ _ _ Ext.refl st ?_⟩
        obtain ⟨h3, h4⟩ := foldMin bs b
        have : m = bs.foldl (fun m j => if j < m then j else m) b := Int.le_antisymm (hu _ h3) (h4 m hm)
        simp only [rlR, Rep, this]
  · cases e⟩
end
/-! ### methods -/
inductive Rk where
  | str | lst | dic
deriving DecidableEq
def Rk.nm : Rk → String
  | .str => "str"
  | .lst => "list"
  | .dic => "dict"
def recS (k : Rk) (S : Sto) (d : D) : Option Unit := match k, tyS S d with
  | .str, some .str => some ()
  | .lst, some .lst => some ()
  | .dic, some .dic => some ()
  | _, _ => none
def eM (k : Rk) (o : Sto → D → List D → Option D) (f : Ev) (fs : Evs) : Ev := fun ρ S => (f ρ S).bind fun x S1 => (opt (recS k S1 x) S1).bind fun _ S1 => (fs ρ S1).bind fun xs S2 => opt (o S2 x xs) S2
def MetD (g : Gb) (X : Cx) (id : String) (P : Rl D V) (o : Sto → D → List D → Option D) : Prop :=
  ∃ r, MtR X id r ∧ ∀ W H S d ds z v vs Q, g.Sta W H S → RepP g.K g.mg W H d v → RepPs g W H ds vs → o S d ds = some z → (∀ v W' H', Ext W H W' H' → g.Sta W' H' S → P H W' H' z v → Q v H') → r v vs H Q
section
variable {X : Cx} {g : Gb} {Wx : WX} {H₀ : Hp} {a e o : Expr} {es : List Expr} {f fa : Ev} {fs : Evs} {n : Nat} {pos p apos cpos : Pos} {P : Rl D V} {x name : Str} {id T : String}
theorem rec_ty {k : Rk} {W : Wo} {H : Hp} {S : Sto} {d : D} {v : V} {u : Unit} (hK : X.K = g.K) (st : g.Sta W H S) (r : RepP g.K g.mg W H d v) (e : recS k S d = some u) : tyV X.K k.nm v H := by
  have hl : ∀ {a : Addr} {xs : List V}, v = .ref a → H a = some (.lst xs) → tyV X.K "list" v H := fun {a xs} hv h => by rw [hv]; exact .inl ⟨rfl, xs, .of h⟩
  have hd : ∀ {a : Addr} {xs : List (Key × V)}, v = .ref a → H a = some (.dK xs) → tyV X.K "dict" v H := fun {a xs} hv h => by rw [hv]; exact .inr (.inr (.inl ⟨rfl, .inl ⟨xs, h⟩⟩))
  cases k with
  | str =>
    cases d with
    | str z => rw [r.str.1]; rfl
    | obj l =>
      cases ec : S[l]? with
      | none => simp [recS, tyS, ec] at e
      | some c => cases c <;> simp [recS, tyS, ec] at e
    | _ => cases e
  | lst =>
    cases d with
    | lst ds =>
      obtain ⟨a, xs, hv, h, _⟩ := r.lst
      exact hl hv h
    | obj l =>
      cases ec : S[l]? with
      | none => simp [recS, tyS, ec] at e
      | some c =>
        obtain ⟨a, hv, ha⟩ := r.obj
        have hc := st.cells l c a ec ha
        cases c with
        | lst ds =>
          obtain ⟨xs, h, _⟩ := hc
          exact hl hv h
        | dic ds => simp [recS, tyS, ec] at e
        | ins c fs => simp [recS, tyS, ec] at e
    | _ => cases e
  | dic =>
    cases d with
    | dic ds =>
      obtain ⟨a, xs, hv, h, _⟩ := r.dic
      exact hd hv h
    | obj l =>
      cases ec : S[l]? with
      | none => simp [recS, tyS, ec] at e
      | some c =>
        obtain ⟨a, hv, ha⟩ := r.obj
        have hc := st.cells l c a ec ha
        cases c with
        | dic ds =>
          obtain ⟨xs, h, _⟩ := hc
          exact hd hv h
        | lst ds => simp [recS, tyS, ec] at e
        | ins c fs => simp [recS, tyS, ec] at e
    | _ => cases e
theorem d_m {k : Rk} {m : Sto → D → List D → Option D} (hK : X.K = g.K) (hP : Mono P) (pa : PlainAttrs k.nm) (slot : PySem.Slot k.nm name id) (hty : typeOf (.builtin id) = pure (.type "method_descriptor")) (hm : MetD g X id P m) (ho : PE X o (rd g Wx H₀ (rlP g) f)) (ha : PA X (e :: es) (rd g Wx H₀ (rlQ g n) fs))
    (hbase : attributeBase o name X.env (eval o X.env) = eval o X.env := by rfl)
    (hfew : ((backTo cpos (starEach (e :: es) X.env)).all (fun x => !x.1) && (backToKw cpos (keywordEach [] X.env)).all (fun x => x.1.isSome)
      && decide ((e :: es).length + ([] : List Keyword).length + (if ([] : List Keyword).isEmpty then 0 else 1) < 30)) = true := by rfl)
    (hline : (apos.endLine == cpos.line) = true := by rfl) (hs : starEach (e :: es) X.env = (false, eval e X.env) :: starEach es X.env := by rfl) (hplain : (backTo cpos (starEach es X.env)).any (·.1) = false := by rfl) :
    PE X (.Call (.Attribute o name apos) (e :: es) [] cpos) (rd g Wx H₀ P (eM k m f fs)) := by
  obtain ⟨r, hr, im⟩ := hm
  exact (pe_bm pa slot hty hr ho ha hbase hfew hline hs hplain).imp fun σ H Q ⟨W, ρ, S, st, en, h⟩ => step hP st en h fun x W1 H1 S1 d e1 s1 n1 p1 h1 => by
    cases er : recS k S1 d with
    | none => rw [er] at h1; exact h1.elim
    | some u =>
      rw [er] at h1
      refine ⟨rec_ty hK s1 p1 er, step hP s1 n1 h1 fun xs W2 H2 S2 ds e2 s2 n2 p2 h2 => ?_⟩
      obtain ⟨z, ez, h3⟩ := h2.opt
      exact im W2 H2 S2 d ds z x xs Q s2 (RepP.ext e2 s1 p1) p2.1 ez h3
theorem d_m0 {k : Rk} {m : Sto → D → List D → Option D} (hK : X.K = g.K) (hP : Mono P) (pa : PlainAttrs k.nm) (slot : PySem.Slot k.nm name id) (hty : typeOf (.builtin id) = pure (.type "method_descriptor")) (hm : MetD g X id P m) (ho : PE X o (rd g Wx H₀ (rlP g) f))
    (hbase : attributeBase o name X.env (eval o X.env) = eval o X.env := by rfl) (hline : (apos.endLine == cpos.line) = true := by rfl) :
    PE X (.Call (.Attribute o name apos) [] [] cpos) (rd g Wx H₀ P (eM k m f eNil)) := by
  obtain ⟨r, hr, im⟩ := hm
  exact (pe_bm0 pa slot hty hr ho hbase hline).imp fun σ H Q ⟨W, ρ, S, st, en, h⟩ => step hP st en h fun x W1 H1 S1 d e1 s1 n1 p1 h1 => by
    cases er : recS k S1 d with
    | none => rw [er] at h1; exact h1.elim
    | some u =>
      rw [er] at h1
      have h1 : rdp g Wx P σ W1 H1 (opt (m S1 d []) S1) Q := h1
      obtain ⟨z, ez, h3⟩ := h1.opt
      exact ⟨rec_ty hK s1 p1 er, im W1 H1 S1 d [] z x [] Q s1 p1 rfl ez h3⟩
end
end DL

set_option Elab.async false
set_option linter.all false
set_option maxRecDepth 100000
set_option maxHeartbeats 2000000
/-! DL, part N: comprehensions with one clause, with two; a, b = x, y. -/
namespace DL
open PySem PySem.Spec PyProof.Rows L2 NdefX
mutual
theorem put_at : ∀ {t : Tg} {d : D} {ρ ρ' : DL.Env}, t.put d ρ = some ρ' → ∀ j, (j ∈ t.ix → j < ρ.length → ∃ d, ρ'[j]? = some (.fz d)) ∧ (j ∉ t.ix → ρ'[j]? = ρ[j]?)
  | .nm i, d, ρ, ρ', h => fun j => by
    simp only [Tg.put, Option.some.injEq] at h
    subst h
    rw [getElem?_set']
    refine ⟨fun hj hl => ?_, fun hj => ?_⟩
    · simp only [Tg.ix, List.mem_singleton] at hj
      rw [if_pos ⟨hj.symm, hl⟩]
      exact ⟨d, rfl⟩
    · rw [if_neg fun z => hj (by simp [Tg.ix, z.1])]
  | .tp ts, .tup ds, ρ, ρ', h => by
    simp only [Tg.put] at h
    exact puts_at h
  | .tp ts, .non, ρ, ρ', h => by simp [Tg.put] at h
  | .tp ts, .bl _, ρ, ρ', h => by simp [Tg.put] at h
  | .tp ts, .int _, ρ, ρ', h => by simp [Tg.put] at h
  | .tp ts, .str _, ρ, ρ', h => by simp [Tg.put] at h
  | .tp ts, .lst _, ρ, ρ', h => by simp [Tg.put] at h
  | .tp ts, .dic _, ρ, ρ', h => by simp [Tg.put] at h
  | .tp ts, .obj _, ρ, ρ', h => by simp [Tg.put] at h
  | .tp ts, .fn _, ρ, ρ', h => by simp [Tg.put] at h
theorem puts_at : ∀ {ts : List Tg} {ds : List D} {ρ ρ' : DL.Env}, Tg.puts ts ds ρ = some ρ' → ∀ j, (j ∈ Tg.ixs ts → j < ρ.length → ∃ d, ρ'[j]? = some (.fz d)) ∧ (j ∉ Tg.ixs ts → ρ'[j]? = ρ[j]?)
  | [], [], ρ, ρ', h => fun j => by
    simp only [Tg.puts, Option.some.injEq] at h
    subst h
    exact ⟨fun z => by simp [Tg.ixs] at z, fun _ => rfl⟩
  | [], d :: ds, ρ, ρ', h => by simp [Tg.puts] at h
  | t :: ts, [], ρ, ρ', h => by simp [Tg.puts] at h
  | t :: ts, d :: ds, ρ, ρ', h => fun j => by
    simp only [Tg.puts] at h
    cases e : t.put d ρ with
    | none => rw [e] at h; cases h
    | some ρ1 =>
      rw [e] at h
      obtain ⟨a1, a2⟩ := put_at e j
      obtain ⟨b1, b2⟩ := puts_at (ρ := ρ1) (ρ' := ρ') h j
      have hl := put_len e
      refine ⟨fun hj hlt => ?_, fun hj => ?_⟩
      · by_cases hts : j ∈ Tg.ixs ts
        · exact b1 hts (by rw [hl]; exact hlt)
        · rw [Tg.ixs, List.mem_append] at hj
          rw [b2 hts]
          exact a1 (hj.resolve_right hts) hlt
      · rw [Tg.ixs, List.mem_append, not_or] at hj
        rw [b2 hj.2, a2 hj.1]
end
theorem put_ow {t : Tg} {d : D} {ρ ρ' : DL.Env} (h : t.put d ρ = some ρ') {j : Nat} {d' : D} (hj : ρ'[j]? = some (.ow d')) : j ∉ t.ix ∧ ρ[j]? = some (.ow d') := by
  obtain ⟨a1, a2⟩ := put_at h j
  have hn : j ∉ t.ix := fun z => by
    obtain ⟨d2, h2⟩ := a1 z (by rw [← put_len h]; exact (List.getElem?_eq_some_iff.mp hj).1)
    rw [hj] at h2; cases h2
  exact ⟨hn, by rw [← a2 hn]; exact hj⟩
def okR {α : Type} (r : Res α) (C : α → Sto → Prop) : Prop := match r with
  | .ok a S => C a S
  | _ => False
/-- [e for t in it if c for t1 in it1 if c1]: at most 4096 turns each -/
def lc2Go (t : Tg) (c : Tv) (it1 : It) (t1 : Tg) (c1 : Tv) (e : Ev) (own own1 : List Nat) (ρ : Env) : List D → Sto → Res (List D)
  | [], S => .ok [] S
  | d :: ds, S => (opt (t.put d (wipe ρ own)) S).bind fun ρ1 S1 => (c ρ1 S1).bind fun k S2 =>
    if k = true then (it1 ρ1 S2).bind fun ds1 S3 => if ds1.length ≤ 4096 then (lcGo t1 c1 e own1 ρ1 ds1 S3).bind fun ys S4 => (lc2Go t c it1 t1 c1 e own own1 ρ ds S4).bind fun zs S5 => .ok (ys ++ zs) S5 else .bad
    else lc2Go t c it1 t1 c1 e own own1 ρ ds S2
def eLc2 (t : Tg) (it : It) (c : Tv) (t1 : Tg) (it1 : It) (c1 : Tv) (e : Ev) (own own1 : List Nat) : Ev := fun ρ S => (it ρ S).bind fun ds S1 =>
  if ds.length ≤ 4096 then (noX (lc2Go t c it1 t1 c1 e own own1 ρ ds S1)).bind fun ys S2 => .ok (.lst ys) S2 else .bad
section
variable {g : Gb} {Wx : WX} {H₀ : Hp} {t t1 : Tg} {it it1 : DL.It} {c c1 : Tv} {e : Ev} {vs vs1 : List Nat} {α β γ : Type} {P : Rl α β}
theorem okR.bind {r : Res α} {f : α → Sto → Res γ} {C : γ → Sto → Prop} (h : okR (r.bind f) C) : okR r fun a S => okR (f a S) C := by
  cases r with
  | ok a S => exact h
  | exc x S => exact h
  | bad => exact h
theorem okR.mono {r : Res α} {C C' : α → Sto → Prop} (h : okR r C) (k : ∀ a S, C a S → C' a S) : okR r C' := by
  cases r with
  | ok a S => exact k a S h
  | exc x S => exact h
  | bad => exact h
theorem okR.unb {r : Res α} {f : α → Sto → Res γ} {C : γ → Sto → Prop} (h : okR r fun a S => okR (f a S) C) : okR (r.bind f) C := by
  cases r with
  | ok a S => exact h
  | exc x S => exact h
  | bad => exact h
theorem okR.rd {f : DL.Env → Sto → Res α} {ρ : DL.Env} {σ : L2.St} {W : Wo} {H : Hp} {S : Sto} {Q : β → Hp → Prop} {C : α → Sto → Prop} (st : g.Sta W H S) (en : EnvOk g W H H₀ ρ σ) (h : okR (f ρ S) C)
    (k : ∀ a S' v W' H', C a S' → Ext W H W' H' → g.Sta W' H' S' → P H W' H' a v → Q v H') : rd g Wn H₀ P f σ H Q := by
  refine ⟨W, ρ, S, st, en, ?_⟩
  revert h
  cases f ρ S with
  | ok a S' => exact fun h v W' H' e' s' p' => k a S' v W' H' h e' s' p'
  | exc x S => exact fun h => h.elim
  | bad => exact fun h => h
theorem noX_ok' {r : Res α} {k : α → Sto → Res γ} {δ : Type} {P2 : Rl γ δ} {σ : L2.St} {W : Wo} {H : Hp} {Q : δ → Hp → Prop} (h : rdp g Wx P2 σ W H ((noX r).bind k) Q) : okR r fun a S => rdp g Wx P2 σ W H (k a S) Q := by
  cases r with
  | ok a S => exact h
  | exc x S => exact h
  | bad => exact h
/-- the list that is made, at D -/
structure AccAt (g : Gb) (W : Wo) (H : Hp) (D : Addr) (done : List DL.D) : Prop where
  ex : ∃ acc, H D = some (.lst acc) ∧ g.Reps W H done acc
  nR : ¬ W.R D
  nM : D ∉ W.m
theorem AccAt.ext {W W' : Wo} {H H' : Hp} {S : Sto} {D : Addr} {done : List DL.D} (a : AccAt g W H D done) (st : g.Sta W H S) (e : Ext W H W' H') : AccAt g W' H' D done := by
  obtain ⟨acc, h, r⟩ := a.ex
  exact ⟨⟨acc, e.keep D _ h a.nM trivial, r.ext e st⟩, e.notR h a.nR, e.notM h a.nM⟩
/-- what is known at a turn -/
structure LcS (g : Gb) (Wb : Wo) (Hb H₀ : Hp) (W1 : Wo) (H1 : Hp) (ρ : DL.Env) (σ : L2.St) (D : Addr) (W : Wo) (H : Hp) (S : Sto) (done : List DL.D) : Prop where
  st : g.Sta W H S
  en : EnvOk g W H H₀ ρ σ
  ex : Ext Wb Hb W H
  lo : Lo W1 H1 W H
  acc : AccAt g W H D done
theorem LcS.ext {Wb W1 W W' : Wo} {Hb H1 H H' : Hp} {S S' : Sto} {ρ : DL.Env} {σ : L2.St} {D : Addr} {done : List DL.D} (l : LcS g Wb Hb H₀ W1 H1 ρ σ D W H S done) (e : Ext W H W' H') (st : g.Sta W' H' S') : LcS g Wb Hb H₀ W1 H1 ρ σ D W' H' S' done :=
  ⟨st, l.en.ext e l.st, l.ex.trans e, l.lo.trans (e.lo l.st), l.acc.ext l.st e⟩
/-- one clause over ds, from a list that is done already -/
theorem lcRun {Wb W1 : Wo} {Hb Hx H1 : Hp} {S1 : Sto} {ρ : DL.Env} {σ : L2.St} {D : Addr} {ds done0 : List DL.D} {J : L2.It} (ht : ∀ i, i ∈ t.ix → i ∈ vs) (p : rlI g Hx W1 H1 ds J) (hDb : Hb D = none) (hlen : done0.length + ds.length ≤ zLine)
    (l : LcS g Wb Hb H₀ W1 H1 ρ σ D W1 H1 S1 done0) (hqD : ∀ (i : Nat) d, ρ[i]? = some (.ow d) → σ[i]? ≠ some (some (.ref D))) (Fin : Hp → Prop)
    (h : okR (lcGo t c e vs ρ ds S1) fun ys S2 => ∀ W2 H2, LcS g Wb Hb H₀ W1 H1 ρ σ D W2 H2 S2 (done0 ++ ys) → Fin H2) :
    ∃ Wv : Nat → Nat → Hp → Prop, (∃ m, Wv 0 m H1) ∧ ∀ i m H, Wv i m H →
      (J.stop i H ∧ Fin H) ∨ (J.go i H ∧ ∃ Nx : Hp → Prop, (∀ H', Nx H' → ∃ m', m' < m ∧ Wv (i + 1) m' H') ∧ ∀ x H', J.yld i H x H' → gd g H₀ t x (L2.wipe σ vs) H' fun σ2 H2 => L2.wipe σ2 vs = L2.wipe σ vs ∧ rd g Wn H₀ rlE c σ2 H2 fun b H3 =>
        if b = true then rd g Wn H₀ (rlR g) e σ2 H3 fun y H4 => ∃ acc, H4 D = some (.lst acc) ∧ acc.length < sizeLine ∧ Nx (upd H4 D (.lst (acc ++ [y]))) else Nx H3) := by
  obtain ⟨n, G, Y, wk, hn, hG, hY⟩ := p
  let Pv : Nat → Hp → Prop := fun i Hc => ∃ W' S' done, LcS g Wb Hb H₀ W1 H1 ρ σ D W' Hc S' done ∧ done.length ≤ done0.length + i ∧ okR (lcGo t c e vs ρ (ds.drop i) S') fun ys S2 => ∀ W2 H2, LcS g Wb Hb H₀ W1 H1 ρ σ D W2 H2 S2 (done ++ ys) → Fin H2
  refine ⟨fun i m H => m = n - i ∧ i ≤ n ∧ Pv i H, ⟨n, by simp, Nat.zero_le _, W1, S1, done0, l, by omega, by rw [List.drop_zero]; exact h⟩, ?_⟩
  rintro i m Hc ⟨rfl, hi, W', S', done, l', hdl, h'⟩
  by_cases hlt : i < n
  · have hg := hG W' Hc l'.lo
    refine .inr ⟨wk.goes i Hc hlt hg, Pv (i + 1), fun H' q => ⟨n - (i + 1), by omega, rfl, hlt, q⟩, fun x H' hy => ?_⟩
    obtain ⟨W3, d, e3, s3, hd, r3⟩ := hY i x W' Hc S' H' hlt l'.lo l'.st (wk.yields i Hc x H' hlt hg hy)
    have hdr : ds.drop i = d :: ds.drop (i + 1) := by
      obtain ⟨hlt, hd2⟩ := List.getElem?_eq_some_iff.mp hd
      rw [List.drop_eq_getElem_cons hlt, hd2]
    rw [hdr, lcGo] at h'
    cases ep : t.put d (wipe ρ vs) with
    | none => rw [ep] at h'; exact h'.elim
    | some ρ1 =>
      rw [ep] at h'
      have l3 := l'.ext e3 s3
      refine ⟨W3, wipe ρ vs, S', d, ρ1, s3, wipeOk l3.en vs, r3, ep, fun σ2 n4 k4 => ?_⟩
      have hw : L2.wipe σ2 vs = L2.wipe (L2.wipe σ vs) vs := wipe_eq (by rw [← n4.len, ← (wipeOk l3.en vs).len]; exact put_len ep) fun j hj => k4 j fun z => hj (ht j z)
      have hww : L2.wipe (L2.wipe σ vs) vs = L2.wipe σ vs := wipe_eq (wipe_length _ _) fun j hj => wipe_get hj
      refine ⟨by rw [hw, hww], ?_⟩
      refine okR.rd s3 n4 (okR.bind h') fun k S4 b W4 H4 h4 e4 s4 hk => ?_
      cases hk
      have l4 := l3.ext e4 s4
      cases k with
      | false => exact ⟨W4, S4, done, l4, by omega, h4⟩
      | true =>
        refine okR.rd s4 (n4.ext e4 s3) (okR.bind h4) fun y S5 v W5 H5 h5 e5 s5 hv => ?_
        have l5 := l4.ext e5 s5
        obtain ⟨acc, hacc, hr⟩ := l5.acc.ex
        have hil : i < ds.length := by rw [hn]; exact hlt
        refine ⟨acc, hacc, by rw [hr.len, sizeLine_eq]; show done.length < zLine; omega, W5, S5, done ++ [y], ?_, by rw [List.length_append]; simp; omega, okR.mono (okR.bind h5) fun ys S6 q W6 H6 q2 => ?_⟩
        · refine ⟨l5.st.put hacc trivial l5.acc.nR l5.acc.nM, l5.en.put l5.acc.nR hacc trivial hqD, l5.ex.put hDb, l5.lo.trans (putLo l5.acc.nR), ⟨⟨_, upd_same, ?_⟩, l5.acc.nR, l5.acc.nM⟩⟩
          refine (hr.app ?_).lo (putLo l5.acc.nR)
          simp only [Reps]
          exact ⟨v, [], rfl, hv, rfl⟩
        · exact q W6 H6 (by rw [List.append_assoc] at q2; exact q2)
  · have e : i = n := by omega
    subst e
    have hdr : ds.drop i = [] := List.drop_eq_nil_of_le (by omega)
    rw [hdr, lcGo] at h'
    refine .inl ⟨wk.stops Hc (hG W' Hc l'.lo), ?_⟩
    exact h' W' Hc (by rw [List.append_nil]; exact l')
theorem LcS.new {W1 : Wo} {H1 : Hp} {S1 : Sto} {ρ : DL.Env} {σ : L2.St} {D : Addr} (s1 : g.Sta W1 H1 S1) (n1 : EnvOk g W1 H1 H₀ ρ σ) (hD : H1 D = none) : LcS g W1 H1 H₀ W1 (upd H1 D (.lst [])) ρ σ D W1 (upd H1 D (.lst [])) S1 [] := by
  refine ⟨s1.new hD, n1.ext (Ext.new hD) s1, Ext.new hD, Lo.refl, ⟨[], upd_same, by simp only [Reps]⟩, fun z => ?_, fun z => ?_⟩
  · obtain ⟨o, ho, _⟩ := s1.fz D z
    rw [hD] at ho
    cases ho
  · obtain ⟨l, hl⟩ := List.getElem?_of_mem z
    have hl2 : l < S1.length := by rw [← s1.len]; exact (List.getElem?_eq_some_iff.mp hl).1
    have hc := s1.cells l S1[l] D (by simp [hl2]) hl
    revert hc
    cases S1[l] with
    | lst ds => rintro ⟨xs, z, _⟩; rw [hD] at z; cases z
    | dic ds => rintro ⟨xs, z, _⟩; rw [hD] at z; cases z
    | ins c fs => rintro ⟨C, dx, fv, _, z, _⟩; rw [hD] at z; cases z
theorem noOwAt {W1 : Wo} {H1 : Hp} {ρ : DL.Env} {σ : L2.St} {D : Addr} (n1 : EnvOk g W1 H1 H₀ ρ σ) (hD : H1 D = none) : ∀ (i : Nat) d, ρ[i]? = some (.ow d) → σ[i]? ≠ some (some (.ref D)) := fun i d hi hs => by
  obtain ⟨ov, k1, q, k2, _, _, _, k6⟩ := n1.get hi
  rw [hs] at k1
  cases k1
  cases k2
  obtain ⟨u, hu, _⟩ := k6.live
  rw [hD] at hu
  cases hu
theorem rlI.lo {Hx Hy : Hp} {W W' : Wo} {H H' : Hp} {ds : List DL.D} {J : L2.It} (p : rlI g Hx W H ds J) (l : Lo W H W' H') : rlI g Hy W' H' ds J := by
  obtain ⟨n, G, Y, wk, hn, hG, hY⟩ := p
  exact ⟨n, G, Y, wk, hn, fun W2 H2 l2 => hG W2 H2 (l.trans l2), fun i x W2 H2 S2 H3 hi l2 => hY i x W2 H2 S2 H3 hi (l.trans l2)⟩
theorem AccAt.frs {W : Wo} {H H1 : Hp} {D : Addr} {done : List DL.D} (a : AccAt g W H D done) (hD : H1 D = none) : rlF g H1 W H (.lst done) (.ref D) := by
  obtain ⟨acc, h, r⟩ := a.ex
  exact ⟨D, rfl, hD, a.nR, a.nM, acc, h, r⟩
theorem lcGo_len {ρ : DL.Env} : ∀ {ds : List DL.D} {S : Sto} {C : List DL.D → Sto → Prop}, okR (lcGo t c e vs ρ ds S) C → okR (lcGo t c e vs ρ ds S) fun ys S' => C ys S' ∧ ys.length ≤ ds.length
  | [], S, C, h => ⟨h, Nat.le_refl _⟩
  | d :: ds, S, C, h => by
    rw [lcGo] at h ⊢
    refine okR.unb (okR.mono (okR.bind h) fun ρ1 S1 h1 => okR.unb (okR.mono (okR.bind h1) fun k S2 h2 => ?_))
    cases k with
    | false => exact okR.mono (lcGo_len (show okR (lcGo t c e vs ρ ds S2) C from h2)) fun ys S' q => ⟨q.1, Nat.le_succ_of_le q.2⟩
    | true =>
      refine okR.unb (okR.mono (okR.bind h2) fun y S3 h3 => okR.unb (okR.mono (lcGo_len (okR.bind h3)) fun ys S4 h4 => ⟨h4.1, Nat.succ_le_succ h4.2⟩))
theorem lc2Reading {σ : L2.St} {H : Hp} {Q : VK} (ht : ∀ i, i ∈ t.ix → i ∈ vs) (ht1 : ∀ i, i ∈ t1.ix → i ∈ vs1) (h : rd g Wx H₀ (rlF g) (eLc2 t it c t1 it1 c1 e vs vs1) σ H Q) :
    tLc2 (rd g Wx H₀ (rlI g) it) (gd g H₀ t) (rd g Wn H₀ rlE c) (rd g Wn H₀ (rlI g) it1) (gd g H₀ t1) (rd g Wn H₀ rlE c1) (rd g Wn H₀ (rlR g) e) vs vs1 σ H Q := by
  obtain ⟨W, ρ, S, st, en, h⟩ := h
  refine step monoF st en h fun J W1 H1 S1 ds e1 s1 n1 p1 h1 => ?_
  intro D hD
  split at h1
  case isFalse => exact h1.elim
  rename_i hlen
  have hqD := noOwAt n1 hD
  have l0 := LcS.new s1 n1 hD
  have h1' := noX_ok' h1
  obtain ⟨n, G, Y, wk, hn, hG, hY⟩ := p1.lo (Hy := H1) ((Ext.new (W := W1) (o := .lst []) hD).lo s1)
  let Pv : Nat → Hp → Prop := fun i Hc => ∃ W' S' done, LcS g W1 H1 H₀ W1 (upd H1 D (.lst [])) ρ σ D W' Hc S' done ∧ done.length ≤ i * 4096 ∧ okR (lc2Go t c it1 t1 c1 e vs vs1 ρ (ds.drop i) S') fun ys S2 => rdp g Wx (rlF g) σ W1 H1 (.ok (.lst (done ++ ys)) S2) Q
  refine ⟨fun i m H => m = n - i ∧ i ≤ n ∧ Pv i H, ⟨n, by simp, Nat.zero_le _, W1, S1, [], l0, by simp, by rw [List.drop_zero]; exact h1'⟩, ?_⟩
  rintro i m Hc ⟨rfl, hi, W', S', done, l', hdl, h'⟩
  by_cases hlt : i < n
  · have hg := hG W' Hc l'.lo
    refine .inr ⟨wk.goes i Hc hlt hg, Pv (i + 1), fun H' q => ⟨n - (i + 1), by omega, rfl, hlt, q⟩, fun x H' hy => ?_⟩
    obtain ⟨W3, d, e3, s3, hd, r3⟩ := hY i x W' Hc S' H' hlt l'.lo l'.st (wk.yields i Hc x H' hlt hg hy)
    have hdr : ds.drop i = d :: ds.drop (i + 1) := by
      obtain ⟨hlt, hd2⟩ := List.getElem?_eq_some_iff.mp hd
      rw [List.drop_eq_getElem_cons hlt, hd2]
    rw [hdr, lc2Go] at h'
    cases ep : t.put d (wipe ρ vs) with
    | none => rw [ep] at h'; exact h'.elim
    | some ρ1 =>
      rw [ep] at h'
      have l3 := l'.ext e3 s3
      refine ⟨W3, wipe ρ vs, S', d, ρ1, s3, wipeOk l3.en vs, r3, ep, fun σ2 n4 k4 => ?_⟩
      have hw : L2.wipe σ2 vs = L2.wipe (L2.wipe σ vs) vs := wipe_eq (by rw [← n4.len, ← (wipeOk l3.en vs).len]; exact put_len ep) fun j hj => k4 j fun z => hj (ht j z)
      have hww : L2.wipe (L2.wipe σ vs) vs = L2.wipe σ vs := wipe_eq (wipe_length _ _) fun j hj => wipe_get hj
      refine ⟨by rw [hw, hww], ?_⟩
      refine okR.rd s3 n4 (okR.bind h') fun k S4 b W4 H4 h4 e4 s4 hk => ?_
      cases hk
      have l4 := l3.ext e4 s4
      cases k with
      | false => exact ⟨W4, S4, done, l4, by omega, h4⟩
      | true =>
        have n4' := n4.ext e4 s3
        refine okR.rd (P := rlI g) s4 n4' (okR.bind h4) fun ds1 S5 J1 W5 H5 h5 e5 s5 p5 => ?_
        have l5 := l4.ext e5 s5
        have n5 := n4'.ext e5 s4
        split at h5
        case isFalse => exact h5.elim
        rename_i hlen1
        have hil : i < ds.length := by rw [hn]; exact hlt
        have hqD2 : ∀ (i : Nat) d, ρ1[i]? = some (.ow d) → σ2[i]? ≠ some (some (.ref D)) := fun j d' hj hs => by
          obtain ⟨a1, a2⟩ := put_ow ep hj
          obtain ⟨a3, a4⟩ := wipe_ow a2
          rw [k4 j a1, wipe_get a4] at hs
          exact hqD j d' a3 hs
        refine lcRun (Wb := W1) (Hb := H1) (W1 := W5) (H1 := H5) (σ := σ2) (ρ := ρ1) (done0 := done) ht1 p5 hD (by have : (i + 1) * 4096 ≤ 4096 * 4096 := Nat.mul_le_mul_right _ (by omega); show _ ≤ 16777216; omega) ⟨s5, n5, l5.ex, Lo.refl, l5.acc⟩ hqD2 _ (okR.mono (lcGo_len (okR.bind h5)) fun ys S6 ⟨h6, hyl⟩ W6 H6 l6 => ?_)
        have l7 : LcS g W1 H1 H₀ W1 (upd H1 D (.lst [])) ρ σ D W6 H6 S6 (done ++ ys) := ⟨l6.st, n1.ext l6.ex s1, l6.ex, l5.lo.trans l6.lo, l6.acc⟩
        refine ⟨W6, S6, done ++ ys, l7, by rw [List.length_append]; omega, okR.mono (okR.bind h6) fun zs S7 h7 => ?_⟩
        rw [List.append_assoc]
        exact h7
  · have e : i = n := by omega
    subst e
    have hdr : ds.drop i = [] := List.drop_eq_nil_of_le (by omega)
    rw [hdr, lc2Go] at h'
    refine .inl ⟨wk.stops Hc (hG W' Hc l'.lo), ?_⟩
    have h'' : rdp g Wx (rlF g) σ W1 H1 (.ok (.lst (done ++ [])) S') Q := h'
    rw [List.append_nil] at h''
    exact h'' (.ref D) W' Hc l'.ex l'.st (l'.acc.frs hD)
end
/-! ### as expressions, as statements -/
/-- a value: fixed; a list just made, the frame's own -/
def rlK (g : Gb) (k : Bool) : Rl D V := match k with
  | true => rlF g
  | false => rlR g
def slK (k : Bool) (d : D) : Slot := match k with
  | true => .ow d
  | false => .fz d
def sPut (k : Bool) (i : Nat) (a : Ev) : Sv := match k with
  | true => sOwn i a
  | false => sSet i a
theorem monoK {g : Gb} {k : Bool} : Mono (rlK g k) := by cases k; exact monoR; exact monoF
section
variable {g : Gb} {Wx : WX} {W₀ : Wo} {H₀ : Hp} {X : Cx}
/-- a new list goes into a slot -/
theorem putOk {W W1 : Wo} {H H1 : Hp} {S S1 : Sto} {ρ : DL.Env} {σ : L2.St} {D : Ends} {i : Nat} {d : DL.D} {v : V} (k : Bool) (st : g.Sta W H S) (en : EnvOk g W H H₀ ρ σ) (ex : Ext W₀ H₀ W H) (e1 : Ext W H W1 H1) (s1 : g.Sta W1 H1 S1) (n1 : EnvOk g W1 H1 H₀ ρ σ) (x1 : Ext W₀ H₀ W1 H1) (p : rlF g H W1 H1 d v)
    (h : sdp g Wx W₀ H₀ D W1 H1 (.ok (.nx (ρ.set i (slK k d))) S1)) : D.nx (σ.set i (some v)) H1 := by
  obtain ⟨p, rfl, h2, h3, h4, h5⟩ := p
  cases k with
  | true =>
    refine h _ W1 H1 s1 (n1.set i ⟨p, rfl, ex.live _ h2, h3, h4, h5⟩ fun d' _ j e q hj hr hv hs' => ?_) x1 Lo.refl
    have hpq : p = q := by
      have := Option.some.inj hv
      exact V.ref.inj this
    subst hpq
    obtain ⟨ov, ho, hk⟩ := en.get hr
    rw [hs'] at ho; cases ho
    obtain ⟨p', hp', _, _, _, ha⟩ := hk
    have hpp : p = p' := V.ref.inj (Option.some.inj hp')
    subst hpp
    obtain ⟨o, ho, _⟩ := ha.live
    rw [h2] at ho; cases ho
  | false =>
    obtain ⟨o, ho, hz⟩ := h5.live
    have ee : Ext W H (W1.fix p) H1 := e1.fixAt H h2
    exact h _ (W1.fix p) H1 (s1.fixAt ho hz h4) ((en.ext ee st).fz i (fix_rep h5)) (ex.trans ee) ⟨fun _ h => .inl h, ⟨[], by simp [Wo.fix]⟩, fun _ _ _ h => h⟩
theorem asgOk {te : TE} {f : Ev} {i : Nat} (k : Bool) (h : ∀ σ H Q, rd g Wx H₀ (rlF g) f σ H Q → te σ H Q) : ∀ D σ H, sd g Wx W₀ H₀ (sPut k i f) D σ H → tAsg te (gName i) D σ H := fun D σ H ⟨W, ρ, S, st, en, ex, h1⟩ => by
  have h1 : sdp g Wx W₀ H₀ D W H ((f ρ S).bind fun d S1 => .ok (.nx (ρ.set i (slK k d))) S1) := by cases k <;> exact h1
  exact h σ H _ (sstep st en ex h1 fun x W1 H1 S1 d e1 s1 n1 x1 p1 h2 => putOk k st en ex e1 s1 n1 x1 p1 h2)
variable {elt tg iter tg1 iter1 : Expr} {ifs ifs1 : List Expr} {scope : Scope} {own : List (Str × Nat)} {pos spos py : Pos} {t t1 : Tg} {it it1 : DL.It} {c c1 : Tv} {e : Ev} {vs1 : List Nat} {i : Nat} {y : Str}
theorem d_lc (hc : X.calm = true) (hN : X.N.Nodup) (hi : PI X tg iter (rd g Wx H₀ (rlI g) it)) (ok : BlkOk X.N X.env.scope scope own) (ht : ∀ i, i ∈ t.ix → i ∈ own.map (·.2))
    (hg : ∀ (s : Shared) (H : Hp) (C : Addr) (cl : List (Str × Addr)) (fp : List Addr), PG (X.blk s H scope (compEnvC scope cl C X.env) fp) tg (gd g H₀ t)) (hq : ∀ (s : Shared) (H : Hp) (C : Addr) (cl : List (Str × Addr)) (fp : List Addr), PTs (X.blk s H scope (compEnvC scope cl C X.env) fp) ifs (rd g Wn H₀ rlE c))
    (he : ∀ (s : Shared) (H : Hp) (C : Addr) (cl : List (Str × Addr)) (fp : List Addr), PE (X.blk s H scope (compEnvC scope cl C X.env) fp) elt (rd g Wn H₀ (rlR g) e)) (hs : ∀ x, foldedSetIterable iter X.env x = pure x := by intro _; rfl) :
    PE X (.ListComp elt [⟨tg, iter, ifs, 0⟩] scope pos) (rd g Wx H₀ (rlF g) (eLc t it c e (own.map (·.2)))) :=
  (pe_lc hc hN hi ok hg hq he hs).imp fun σ H Q h => lcReading ht h
theorem s_lc (k : Bool) (hc : X.calm = true) (hN : X.N.Nodup) (hy : X.N[i]? = some y) (hyl : X.env.scope.names.lookup y = some .local) (hsw : swapsWith (.ListComp elt [⟨tg, iter, ifs, 0⟩] scope pos) (some (.Name y py)) spos.line X.env = pure true)
    (hi : PI X tg iter (rd g Wx H₀ (rlI g) it)) (ok : BlkOk X.N X.env.scope scope own) (ht : ∀ i, i ∈ t.ix → i ∈ own.map (·.2))
    (hg : ∀ (s : Shared) (H : Hp) (C : Addr) (cl : List (Str × Addr)) (fp : List Addr), PG (X.blk s H scope (compEnvC scope cl C X.env) fp) tg (gd g H₀ t)) (hq : ∀ (s : Shared) (H : Hp) (C : Addr) (cl : List (Str × Addr)) (fp : List Addr), PTs (X.blk s H scope (compEnvC scope cl C X.env) fp) ifs (rd g Wn H₀ rlE c))
    (he : ∀ (s : Shared) (H : Hp) (C : Addr) (cl : List (Str × Addr)) (fp : List Addr), PE (X.blk s H scope (compEnvC scope cl C X.env) fp) elt (rd g Wn H₀ (rlR g) e)) (hs : ∀ x, foldedSetIterable iter X.env x = pure x := by intro _; rfl) :
    PS X (.Assign [.Name y py] (.ListComp elt [⟨tg, iter, ifs, 0⟩] scope pos) spos) (sd g Wx W₀ H₀ (sPut k i (eLc t it c e (own.map (·.2))))) :=
  (ps_setLc hc hN hy hyl hsw hi ok hg hq he hs).imp (asgOk k fun σ H Q h => lcReading ht h)
theorem d_lc2 (hc : X.calm = true) (hN : X.N.Nodup) (hi : PI X tg iter (rd g Wx H₀ (rlI g) it)) (ok : BlkOk X.N X.env.scope scope own) (hv : ∀ i ∈ vs1, i ∈ own.map (·.2)) (ht : ∀ i, i ∈ t.ix → i ∈ own.map (·.2)) (ht1 : ∀ i, i ∈ t1.ix → i ∈ vs1)
    (hg : ∀ (s : Shared) (H : Hp) (C : Addr) (cl : List (Str × Addr)) (fp : List Addr), PG (X.blk s H scope (compEnvC scope cl C X.env) fp) tg (gd g H₀ t)) (hq : ∀ (s : Shared) (H : Hp) (C : Addr) (cl : List (Str × Addr)) (fp : List Addr), PTs (X.blk s H scope (compEnvC scope cl C X.env) fp) ifs (rd g Wn H₀ rlE c))
    (hi1 : ∀ (s : Shared) (H : Hp) (C : Addr) (cl : List (Str × Addr)) (fp : List Addr), PI (X.blk s H scope (compEnvC scope cl C X.env) fp) tg1 iter1 (rd g Wn H₀ (rlI g) it1))
    (hg1 : ∀ (s : Shared) (H : Hp) (C : Addr) (cl : List (Str × Addr)) (fp : List Addr), PG (X.blk s H scope (compEnvC scope cl C X.env) fp) tg1 (gd g H₀ t1)) (hq1 : ∀ (s : Shared) (H : Hp) (C : Addr) (cl : List (Str × Addr)) (fp : List Addr), PTs (X.blk s H scope (compEnvC scope cl C X.env) fp) ifs1 (rd g Wn H₀ rlE c1))
    (he : ∀ (s : Shared) (H : Hp) (C : Addr) (cl : List (Str × Addr)) (fp : List Addr), PE (X.blk s H scope (compEnvC scope cl C X.env) fp) elt (rd g Wn H₀ (rlR g) e)) (hs : ∀ x, foldedSetIterable iter X.env x = pure x := by intro _; rfl) (hs1 : ∀ env x, foldedSetIterable iter1 env x = pure x := by intro _ _; rfl) :
    PE X (.ListComp elt [⟨tg, iter, ifs, 0⟩, ⟨tg1, iter1, ifs1, 0⟩] scope pos) (rd g Wx H₀ (rlF g) (eLc2 t it c t1 it1 c1 e (own.map (·.2)) vs1)) :=
  (pe_lc2 hc hN hi ok hv hg hq hi1 hg1 hq1 he hs hs1).imp fun σ H Q h => lc2Reading ht ht1 h
theorem s_lc2 (k : Bool) (hc : X.calm = true) (hN : X.N.Nodup) (hy : X.N[i]? = some y) (hyl : X.env.scope.names.lookup y = some .local) (hsw : swapsWith (.ListComp elt [⟨tg, iter, ifs, 0⟩, ⟨tg1, iter1, ifs1, 0⟩] scope pos) (some (.Name y py)) spos.line X.env = pure true)
    (hi : PI X tg iter (rd g Wx H₀ (rlI g) it)) (ok : BlkOk X.N X.env.scope scope own) (hv : ∀ i ∈ vs1, i ∈ own.map (·.2)) (ht : ∀ i, i ∈ t.ix → i ∈ own.map (·.2)) (ht1 : ∀ i, i ∈ t1.ix → i ∈ vs1)
    (hg : ∀ (s : Shared) (H : Hp) (C : Addr) (cl : List (Str × Addr)) (fp : List Addr), PG (X.blk s H scope (compEnvC scope cl C X.env) fp) tg (gd g H₀ t)) (hq : ∀ (s : Shared) (H : Hp) (C : Addr) (cl : List (Str × Addr)) (fp : List Addr), PTs (X.blk s H scope (compEnvC scope cl C X.env) fp) ifs (rd g Wn H₀ rlE c))
    (hi1 : ∀ (s : Shared) (H : Hp) (C : Addr) (cl : List (Str × Addr)) (fp : List Addr), PI (X.blk s H scope (compEnvC scope cl C X.env) fp) tg1 iter1 (rd g Wn H₀ (rlI g) it1))
    (hg1 : ∀ (s : Shared) (H : Hp) (C : Addr) (cl : List (Str × Addr)) (fp : List Addr), PG (X.blk s H scope (compEnvC scope cl C X.env) fp) tg1 (gd g H₀ t1)) (hq1 : ∀ (s : Shared) (H : Hp) (C : Addr) (cl : List (Str × Addr)) (fp : List Addr), PTs (X.blk s H scope (compEnvC scope cl C X.env) fp) ifs1 (rd g Wn H₀ rlE c1))
    (he : ∀ (s : Shared) (H : Hp) (C : Addr) (cl : List (Str × Addr)) (fp : List Addr), PE (X.blk s H scope (compEnvC scope cl C X.env) fp) elt (rd g Wn H₀ (rlR g) e)) (hs : ∀ x, foldedSetIterable iter X.env x = pure x := by intro _; rfl) (hs1 : ∀ env x, foldedSetIterable iter1 env x = pure x := by intro _ _; rfl) :
    PS X (.Assign [.Name y py] (.ListComp elt [⟨tg, iter, ifs, 0⟩, ⟨tg1, iter1, ifs1, 0⟩] scope pos) spos) (sd g Wx W₀ H₀ (sPut k i (eLc2 t it c t1 it1 c1 e (own.map (·.2)) vs1))) :=
  (ps_setLc2 hc hN hy hyl hsw hi ok hv hg hq hi1 hg1 hq1 he hs hs1).imp (asgOk k fun σ H Q h => lc2Reading ht ht1 h)
end
/-! ### a, b = x, y -/
section
variable {g : Gb} {Wx : WX} {W₀ : Wo} {H₀ : Hp} {X : Cx} {a b c : Expr} {fa fb fc : Ev} {i j l : Nat} {x y z : Str} {px py pz pt pos pt2 : Pos} {kt k2 : Nat}
theorem Frs.ext {H H1 H2 : Hp} {W1 W2 : Wo} {S1 : Sto} {d : DL.D} {v : V} (p : rlF g H W1 H1 d v) (s1 : g.Sta W1 H1 S1) (e2 : Ext W1 H1 W2 H2) : rlF g H W2 H2 d v := by
  obtain ⟨p, rfl, h2, h3, h4, h5⟩ := p
  obtain ⟨o, ho, _⟩ := h5.live
  exact ⟨p, rfl, h2, e2.notR ho h3, e2.notM ho h4, h5.ext e2 s1 h4⟩
theorem EnvOk.ownNew {W W1 : Wo} {H H1 : Hp} {ρ : DL.Env} {σ : L2.St} {i : Nat} {d : DL.D} {v : V} (n0 : EnvOk g W H H₀ ρ σ) (n1 : EnvOk g W1 H1 H₀ ρ σ) (lv : ∀ p, H p = none → H₀ p = none) (p : rlF g H W1 H1 d v) : EnvOk g W1 H1 H₀ (ρ.set i (.ow d)) (σ.set i (some v)) := by
  obtain ⟨p, rfl, h2, h3, h4, h5⟩ := p
  refine n1.set i ⟨p, rfl, lv _ h2, h3, h4, h5⟩ fun d' _ j e q hj hr hv hs' => ?_
  have hpq : p = q := by
    have := Option.some.inj hv
    exact V.ref.inj this
  subst hpq
  obtain ⟨ov, ho, hk⟩ := n0.get hr
  rw [hs'] at ho; cases ho
  obtain ⟨p', hp', _, _, _, ha⟩ := hk
  have hpp : p = p' := V.ref.inj (Option.some.inj hp')
  subst hpp
  obtain ⟨o, ho, _⟩ := ha.live
  rw [h2] at ho; cases ho
theorem EnvOk.slNew {W W1 : Wo} {H H1 : Hp} {ρ : DL.Env} {σ : L2.St} {i : Nat} {d : DL.D} {v : V} (k : Bool) (n0 : EnvOk g W H H₀ ρ σ) (n1 : EnvOk g W1 H1 H₀ ρ σ) (lv : ∀ p, H p = none → H₀ p = none) (p : rlK g k H W1 H1 d v) : EnvOk g W1 H1 H₀ (ρ.set i (slK k d)) (σ.set i (some v)) := by
  cases k with
  | true => exact n0.ownNew n1 lv p
  | false => exact n1.fz i p
theorem rlK.ext {H H1 H2 : Hp} {W1 W2 : Wo} {S1 : Sto} {d : DL.D} {v : V} {k : Bool} (p : rlK g k H W1 H1 d v) (s1 : g.Sta W1 H1 S1) (e2 : Ext W1 H1 W2 H2) : rlK g k H W2 H2 d v := by
  cases k with
  | true => exact Frs.ext p s1 e2
  | false => exact Rep.ext e2 s1 p
def sPar2 (k1 k2 : Bool) (i j : Nat) (a b : Ev) : Sv := fun ρ S => (a ρ S).bind fun d S1 => (b ρ S1).bind fun e S2 => .ok (.nx ((ρ.set i (slK k1 d)).set j (slK k2 e))) S2
def sPar3 (i j l : Nat) (a b c : Ev) : Sv := fun ρ S => (a ρ S).bind fun d S1 => (b ρ S1).bind fun e S2 => (c ρ S2).bind fun f S3 => .ok (.nx (((ρ.set i (.fz d)).set j (.fz e)).set l (.fz f))) S3
theorem s_par2 (k1 k2' : Bool) (hc : X.calm = true) (hN : X.N.Nodup) (hi : X.N[i]? = some x) (hj : X.N[j]? = some y) (hij : i ≠ j)
    (hx : X.env.scope.names.lookup x = some .local) (hy : X.env.scope.names.lookup y = some .local) (ha : PE X a (rd g Wx H₀ (rlK g k1) fa)) (hb : PE X b (rd g Wx H₀ (rlK g k2') fb))
    (hw : swappedStores [.Tuple [.Name x px, .Name y py] kt pt] (.Tuple [a, b] k2 pt2) X.env = pure (some [x, y]))
    (hs : swapsWithSole [.Tuple [.Name x px, .Name y py] kt pt] (.Tuple [a, b] k2 pt2) pos.line X.env = pure false := by rfl)
    (h1 : starEach [a, b] X.env = (false, eval a X.env) :: starEach [b] X.env := by rfl) (h2 : starEach [b] X.env = (false, eval b X.env) :: starEach [] X.env := by rfl) :
    PS X (.Assign [.Tuple [.Name x px, .Name y py] kt pt] (.Tuple [a, b] k2 pt2) pos) (sd g Wx W₀ H₀ (sPar2 k1 k2' i j fa fb)) :=
  (ps_par hc hN hi hj hij hx hy (pa_cons ha (pa_cons hb pa_nil h2) h1) hw hs).imp fun D σ H ⟨W, ρ, S, st, en, ex, h⟩ => by
    refine sstep st en ex h fun v W1 H1 S1 d e1 s1 n1 x1 p1 h1 => sstep s1 n1 x1 h1 fun w W2 H2 S2 e e2 s2 n2 x2 p2 h2 => ?_
    have p1' := rlK.ext p1 s1 e2
    exact ⟨_, _, rfl, h2 _ W2 H2 s2 ((en.slNew k1 n1 ex.live p1).slNew k2' (en.slNew k1 n2 ex.live p1') x1.live p2) x2 Lo.refl⟩
theorem s_par3 (hc : X.calm = true) (hN : X.N.Nodup) (hi : X.N[i]? = some x) (hj : X.N[j]? = some y) (hl : X.N[l]? = some z) (hij : i ≠ j) (hil : i ≠ l) (hjl : j ≠ l)
    (hx : X.env.scope.names.lookup x = some .local) (hy : X.env.scope.names.lookup y = some .local) (hz : X.env.scope.names.lookup z = some .local) (ha : PE X a (rd g Wx H₀ (rlR g) fa)) (hb : PE X b (rd g Wx H₀ (rlR g) fb)) (hcc : PE X c (rd g Wx H₀ (rlR g) fc))
    (hw : swappedStores [.Tuple [.Name x px, .Name y py, .Name z pz] kt pt] (.Tuple [a, b, c] k2 pt2) X.env = pure (some [x, y, z]))
    (hs : swapsWithSole [.Tuple [.Name x px, .Name y py, .Name z pz] kt pt] (.Tuple [a, b, c] k2 pt2) pos.line X.env = pure false := by rfl)
    (h1 : starEach [a, b, c] X.env = (false, eval a X.env) :: starEach [b, c] X.env := by rfl) (h2 : starEach [b, c] X.env = (false, eval b X.env) :: starEach [c] X.env := by rfl) (h3 : starEach [c] X.env = (false, eval c X.env) :: starEach [] X.env := by rfl) :
    PS X (.Assign [.Tuple [.Name x px, .Name y py, .Name z pz] kt pt] (.Tuple [a, b, c] k2 pt2) pos) (sd g Wx W₀ H₀ (sPar3 i j l fa fb fc)) :=
  (ps_par3 hc hN hi hj hl hij hil hjl hx hy hz (pa_cons ha (pa_cons hb (pa_cons hcc pa_nil h3) h2) h1) hw hs).imp fun D σ H ⟨W, ρ, S, st, en, ex, h⟩ => by
    refine sstep st en ex h fun v W1 H1 S1 d e1 s1 n1 x1 p1 h1 => sstep s1 n1 x1 h1 fun w W2 H2 S2 e e2 s2 n2 x2 p2 h2 => sstep s2 n2 x2 h2 fun u W3 H3 S3 f e3 s3 n3 x3 p3 h3 => ?_
    exact ⟨_, _, _, rfl, h3 _ W3 H3 s3 (((n3.fz i (Rep.ext e3 s2 (Rep.ext e2 s1 p1))).fz j (Rep.ext e3 s2 p2)).fz l p3) x3 Lo.refl⟩
end
end DL

set_option Elab.async false
set_option linter.all false
set_option maxRecDepth 100000
set_option maxHeartbeats 2000000
/-! DL, part O: things of the store: lists that change, instances, attributes, methods. -/
namespace DL
open PySem PySem.Spec PyProof.Rows L2 NdefX
/-- what a thing of the store is -/
def isCl : HO → Prop
  | .lst _ => True
  | .dK _ => True
  | .ins _ _ _ => True
  | _ => False
section
variable {g : Gb} {W W₀ : Wo} {H H₀ : Hp} {S : Sto} {ρ : DL.Env} {σ : L2.St} {p a : Addr} {o o' : HO}
theorem CellOk.is {c : Cell} (h : CellOk g.K g.mg W H a c) : ∃ o, H a = some o ∧ isCl o := by
  cases c with
  | lst ds => obtain ⟨xs, h, _⟩ := h; exact ⟨_, h, trivial⟩
  | dic ds => obtain ⟨xs, h, _⟩ := h; exact ⟨_, h, trivial⟩
  | ins c fs => obtain ⟨C, dx, fv, _, h, _⟩ := h; exact ⟨_, h, trivial⟩
theorem Sta.cell (st : g.Sta W H S) {l : Nat} {c : Cell} (e : S[l]? = some c) : ∃ a, W.m[l]? = some a ∧ CellOk g.K g.mg W H a c := by
  have hl : l < W.m.length := by rw [st.len]; exact (List.getElem?_eq_some_iff.mp e).1
  exact ⟨W.m[l], by simp [hl], st.cells l c _ e (by simp [hl])⟩
/-- a thing of the store is written -/
theorem clLo (st : g.Sta W H S) (ha : a ∈ W.m) : Lo W H W (upd H a o') := putLo (st.mR a ha)
theorem clFu (st : g.Sta W H S) (ha : a ∈ W.m) (hp : H a = some o) (hc : isCl o) : Fu W H W (upd H a o') := ⟨clLo st ha, fun b u h x => by
  rw [upd_ne (fun z => by subst z; rw [hp] at h; cases h; cases o <;> first | exact x | exact hc)]; exact h⟩
theorem Sta.putCell (st : g.Sta W H S) {l : Nat} {c : Cell} (hl : W.m[l]? = some a) (hp : H a = some o) (hc : isCl o) (k : CellOk g.K g.mg W (upd H a o') a c) : g.Sta W (upd H a o') (S.set l c) where
  fz := fun b h => by
    obtain ⟨u, hu, hz⟩ := st.fz b h
    exact ⟨u, by rw [upd_ne (fun z => st.mR a (List.mem_of_getElem? hl) (by rw [← z]; exact h))]; exact hu, hz⟩
  nd := st.nd
  mR := st.mR
  len := by rw [List.length_set]; exact st.len
  cells := fun j c' b h1 h2 => by
    rw [getElem?_set'] at h1
    by_cases hj : l = j ∧ j < S.length
    · rw [if_pos hj] at h1
      cases h1
      rw [← hj.1, hl] at h2
      cases h2
      exact k
    · rw [if_neg hj] at h1
      have hjl : j < S.length := (List.getElem?_eq_some_iff.mp h1).1
      have hne : b ≠ a := fun z => by
        subst z
        obtain ⟨a1, a2⟩ := List.getElem?_eq_some_iff.mp hl
        obtain ⟨b1, b2⟩ := List.getElem?_eq_some_iff.mp h2
        have := (List.getElem_inj (h₀ := a1) (h₁ := b1) st.nd).mp (a2.trans b2.symm)
        exact hj ⟨this, hjl⟩
      exact (st.cells j c' b h1 h2).lo (clLo st (List.mem_of_getElem? hl)) (fun u h => by rw [upd_ne hne]; exact h) fun q h => by
        rw [upd_ne (fun z => by subst z; rw [hp] at h; cases h; exact hc)]; exact h
  tabs := fun q hq => by
    obtain ⟨ps, h1, h2, h3⟩ := st.tabs q hq
    refine ⟨ps, by rw [upd_ne (fun z => by rw [z, hp] at h1; cases h1; exact hc)]; exact h1, h2, fun pos cv hcv => ?_⟩
    obtain ⟨c, e1, e2⟩ := h3 pos cv hcv
    refine ⟨c, e1, ?_⟩
    rw [upd_ne (fun z => by rw [z, hp] at e2; cases e2; exact hc)]
    exact e2
theorem Ext.putCell (e : Ext W₀ H₀ W H) (ha : a ∈ W.m) : Ext W₀ H₀ W (upd H a o') :=
  ⟨e.sub, e.pre, fun b u h hm ht => by
    rw [upd_ne (fun z => by
      subst z
      rcases e.newM b ha with q | q
      · exact hm q
      · rw [h] at q; cases q)]
    exact e.keep b u h hm ht, e.newR, e.newM, fun b h => by
    unfold upd at h
    split at h
    · cases h
    · exact e.live b h⟩
theorem EnvOk.putCell (en : EnvOk g W H H₀ ρ σ) (st : g.Sta W H S) (ha : a ∈ W.m) (hp : H a = some o) (hc : isCl o) : EnvOk g W (upd H a o') H₀ ρ σ := by
  refine ⟨en.len, fun i s ov h1 h2 => ?_, en.own⟩
  have h := en.at_ i s ov h1 h2
  cases s with
  | un => trivial
  | fz d =>
    obtain ⟨v, h1, h2⟩ := h
    exact ⟨v, h1, Rep.lo (clLo st ha) h2⟩
  | ow d =>
    obtain ⟨q, h1, h2, h3, h4, h5⟩ := h
    have hne : q ≠ a := fun z => h4 (by rw [z]; exact ha)
    refine ⟨q, h1, h2, h3, h4, ?_⟩
    cases d with
    | lst ds => obtain ⟨xs, y1, y2⟩ := h5; exact ⟨xs, by rw [upd_ne hne]; exact y1, y2.lo (clLo st ha)⟩
    | dic ds => obtain ⟨xs, y1, y2⟩ := h5; exact ⟨xs, by rw [upd_ne hne]; exact y1, y2.lo (clLo st ha)⟩
    | _ => exact h5.elim
  | cl G =>
    obtain ⟨v, h1, h2⟩ := h
    exact ⟨v, h1, h2.fu (clFu st ha hp hc)⟩
  | ex x =>
    obtain ⟨v, h1, b, cls, d, h2, h3, C, y3, y4, y5⟩ := h
    refine ⟨v, h1, b, cls, d, h2, h3, C, y3, y4, ?_⟩
    rcases y5 with y5 | ⟨p2, fv, y5, y6, y7⟩
    · exact .inl y5
    · exact .inr ⟨p2, fv, y5, by rw [upd_ne (fun z => by subst z; rw [hp] at y6; cases y6; exact hc)]; exact y6, y7.lo (clLo st ha)⟩
/-- a new thing of the store -/
def Wo.cell (W : Wo) (a : Addr) : Wo := ⟨W.R, W.m ++ [a]⟩
theorem Sta.noM (st : g.Sta W H S) (hn : H a = none) : a ∉ W.m := fun z => by
  obtain ⟨l, hl⟩ := List.getElem?_of_mem z
  have hl2 : l < S.length := by rw [← st.len]; exact (List.getElem?_eq_some_iff.mp hl).1
  obtain ⟨o, h, _⟩ := (st.cells l S[l] a (by simp [hl2]) hl).is
  rw [hn] at h; cases h
theorem Sta.noR (st : g.Sta W H S) (hn : H a = none) : ¬ W.R a := fun z => by
  obtain ⟨o, h, _⟩ := st.fz a z
  rw [hn] at h; cases h
theorem Ext.newCell (hn : H a = none) : Ext W H (W.cell a) (upd H a o') :=
  ⟨fun _ h => h, ⟨[a], rfl⟩, fun b u h _ _ => by rw [upd_ne (ne_of_none h hn)]; exact h, fun _ h => .inl h, fun b h => by
    rcases List.mem_append.mp h with z | z
    · exact .inl z
    · rw [List.mem_singleton] at z; rw [z]; exact .inr hn, fun b h => by
    unfold upd at h
    split at h
    · cases h
    · exact h⟩
theorem Sta.newCell (st : g.Sta W H S) (hn : H a = none) {c : Cell} (k : CellOk g.K g.mg (W.cell a) (upd H a o') a c) : g.Sta (W.cell a) (upd H a o') (S ++ [c]) where
  fz := fun b h => by
    obtain ⟨u, hu, hz⟩ := st.fz b h
    exact ⟨u, by rw [upd_ne (ne_of_none hu hn)]; exact hu, hz⟩
  nd := by
    show (W.m ++ [a]).Nodup
    rw [List.nodup_append]
    exact ⟨st.nd, by simp, fun x hx y hy z => by
      rw [List.mem_singleton] at hy
      subst hy; subst z
      exact st.noM hn hx⟩
  mR := fun b hb => by
    rcases List.mem_append.mp hb with z | z
    · exact st.mR b z
    · rw [List.mem_singleton] at z; rw [z]; exact st.noR hn
  len := by simp [Wo.cell, st.len]
  cells := fun j c' b h1 h2 => by
    have h2 : (W.m ++ [a])[j]? = some b := h2
    by_cases hj : j < S.length
    · rw [List.getElem?_append_left hj] at h1
      rw [List.getElem?_append_left (by rw [st.len]; exact hj)] at h2
      exact (st.cells j c' b h1 h2).lo ((Ext.newCell hn).lo st) (fun u h => by rw [upd_ne (ne_of_none h hn)]; exact h) fun q h => by rw [upd_ne (ne_of_none h hn)]; exact h
    · have hj2 : j = S.length := by
        have := (List.getElem?_eq_some_iff.mp h1).1
        simp at this
        omega
      subst hj2
      rw [List.getElem?_append_right (Nat.le_refl _)] at h1
      rw [List.getElem?_append_right (by rw [st.len]; exact Nat.le_refl _)] at h2
      simp at h1
      rw [st.len] at h2
      simp at h2
      subst h1 h2
      exact k
  tabs := TabsN.upd' st.tabs hn
theorem Rep.cellAt {W : Wo} {H : Hp} {a : Addr} {n : Nat} (h : W.m.length = n) : g.Rep (W.cell a) H (.obj n) (.ref a) := by
  simp only [Rep]
  exact ⟨a, rfl, by show (W.m ++ [a])[n]? = _; rw [List.getElem?_append_right (by omega)]; simp [h]⟩
end
/-! ### a list just made, by any rule, as a thing of the store -/
def eTo (f : Ev) : Ev := fun ρ S => (f ρ S).bind fun x S1 => match x with
  | .lst ds => .ok (.obj S1.length) (S1 ++ [.lst ds])
  | .dic ds => .ok (.obj S1.length) (S1 ++ [.dic ds])
  | _ => .bad
section
variable {X : Cx} {g : Gb} {Wx : WX} {W₀ : Wo} {H₀ : Hp} {a b e o : Expr} {es : List Expr} {f fa fb : Ev} {fs : Evs} {n : Nat} {pos p apos : Pos} {P : Rl D V} {x : Str}
theorem at_cell {W : Wo} {H H' : Hp} {p : Addr} {ds : List D} (hl : Lo W H (W.cell p) H) (h : At g.K g.mg W H p (.lst ds)) : CellOk g.K g.mg (W.cell p) H p (.lst ds) := by
  obtain ⟨xs, h1, h2⟩ := h
  exact ⟨xs, h1, h2.lo hl⟩
/-- a fresh list becomes a thing of the store -/
theorem Sta.asCell {W : Wo} {H : Hp} {S : Sto} {p : Addr} {c : Cell} {o : HO} (st : g.Sta W H S) (hp : H p = some o) (hR : ¬ W.R p) (hM : p ∉ W.m) (k : CellOk g.K g.mg (W.cell p) H p c) : g.Sta (W.cell p) H (S ++ [c]) where
  fz := st.fz
  nd := by
    show (W.m ++ [p]).Nodup
    rw [List.nodup_append]
    exact ⟨st.nd, by simp, fun x hx y hy z => by
      rw [List.mem_singleton] at hy
      subst hy; subst z
      exact hM hx⟩
  mR := fun b hb => by
    rcases List.mem_append.mp hb with z | z
    · exact st.mR b z
    · rw [List.mem_singleton] at z; rw [z]; exact hR
  len := by simp [Wo.cell, st.len]
  cells := fun j c' b h1 h2 => by
    have h2 : (W.m ++ [p])[j]? = some b := h2
    by_cases hj : j < S.length
    · rw [List.getElem?_append_left hj] at h1
      rw [List.getElem?_append_left (by rw [st.len]; exact hj)] at h2
      exact (st.cells j c' b h1 h2).lo (W := W) (W' := W.cell p) (H' := H) ⟨fun _ h => h, ⟨[p], rfl⟩, fun _ _ _ h => h⟩ (fun u h => h) fun q h => h
    · have hj2 : j = S.length := by
        have := (List.getElem?_eq_some_iff.mp h1).1
        simp at this
        omega
      subst hj2
      rw [List.getElem?_append_right (Nat.le_refl _)] at h1
      rw [List.getElem?_append_right (by rw [st.len]; exact Nat.le_refl _)] at h2
      simp at h1
      rw [st.len] at h2
      simp at h2
      subst h1 h2
      exact k
  tabs := st.tabs
theorem d_to (h : PE X e (rd g Wx H₀ (rlF g) f)) : PE X e (rd g Wx H₀ (rlR g) (eTo f)) := h.imp fun σ H Q ⟨W, ρ, S, st, en, h⟩ => by
  refine ⟨W, ρ, S, st, en, ?_⟩
  have h : rdp g Wx (rlR g) σ W H ((f ρ S).bind fun x S1 => match x with
    | .lst ds => .ok (.obj S1.length) (S1 ++ [.lst ds])
    | .dic ds => .ok (.obj S1.length) (S1 ++ [.dic ds])
    | _ => .bad) Q := h
  revert h
  cases f ρ S with
  | exc x S1 => exact fun h => h
  | bad => exact fun h => h
  | ok d S1 =>
    intro h v W1 H1 e1 s1 p1
    obtain ⟨p, rfl, h2, h3, h4, h5⟩ := p1
    obtain ⟨o, ho, hz⟩ := h5.live
    have lo : Lo W1 H1 (W1.cell p) H1 := ⟨fun _ h => h, ⟨[p], rfl⟩, fun _ _ _ h => h⟩
    have ee : Ext W H (W1.cell p) H1 := ⟨e1.sub, by
        obtain ⟨m, hm⟩ := e1.pre
        exact ⟨m ++ [p], by show W1.m ++ [p] = _; rw [hm, List.append_assoc]⟩, e1.keep, e1.newR, fun b hb => by
        rcases List.mem_append.mp hb with z | z
        · exact e1.newM b z
        · rw [List.mem_singleton] at z; rw [z]; exact .inr h2, e1.live⟩
    cases d with
    | lst ds =>
      obtain ⟨xs, k1, k2⟩ := h5
      exact h (.ref p) (W1.cell p) H1 ee (s1.asCell k1 h3 h4 ⟨xs, k1, k2.lo lo⟩) (Rep.cellAt (g := g) (H := H1) s1.len)
    | dic ds =>
      obtain ⟨xs, k1, k2⟩ := h5
      exact h (.ref p) (W1.cell p) H1 ee (s1.asCell k1 h3 h4 ⟨xs, k1, k2.lo lo⟩) (Rep.cellAt (g := g) (H := H1) s1.len)
    | _ => exact h5.elim
end
end DL

set_option Elab.async false
set_option linter.all false
set_option maxRecDepth 100000
set_option maxHeartbeats 2000000
/-! DL, part P: cells told exactly while a call runs; a lambda, made, called. -/
namespace DL
open PySem PySem.Spec PyProof.Rows L2 NdefX LamX
/-! ### pins -/
/-- the object at an address, told exactly -/
abbrev Pn (o : Obj) : HO := .frz o (.own 0)
abbrev PinL := List (Addr × Obj)
def trk (L : PinL) (H : Hp) : Hp := fun a => match L.lookup a with
  | some o => some (Pn o)
  | none => H a
def utr (L : PinL) (H : Hp) : Hp := fun a => match L.lookup a with
  | some _ => none
  | none => H a
section
variable {L : PinL} {H H' : Hp} {a : Addr} {o : Obj}
theorem trk_in (h : L.lookup a = some o) : trk L H a = some (Pn o) := by unfold trk; rw [h]
theorem trk_out (h : L.lookup a = none) : trk L H a = H a := by unfold trk; rw [h]
theorem utr_in (h : L.lookup a = some o) : utr L H a = none := by unfold utr; rw [h]
theorem utr_out (h : L.lookup a = none) : utr L H a = H a := by unfold utr; rw [h]
theorem trk_cases : (∃ o, L.lookup a = some o ∧ trk L H a = some (Pn o)) ∨ (L.lookup a = none ∧ trk L H a = H a) := by
  cases e : L.lookup a with
  | none => exact .inr ⟨rfl, trk_out e⟩
  | some o => exact .inl ⟨o, rfl, trk_in e⟩
theorem utr_cases : (∃ o, L.lookup a = some o ∧ utr L H a = none) ∨ (L.lookup a = none ∧ utr L H a = H a) := by
  cases e : L.lookup a with
  | none => exact .inr ⟨rfl, utr_out e⟩
  | some o => exact .inl ⟨o, rfl, utr_in e⟩
/-- L's addresses are not tracked in H -/
def Off (L : PinL) (H : Hp) : Prop := ∀ a o, L.lookup a = some o → H a = none
/-- they are pinned -/
def On (L : PinL) (H : Hp) : Prop := ∀ a o, L.lookup a = some o → H a = some (Pn o)
theorem utr_off : Off L (utr L H) := fun _ _ e => utr_in e
theorem trk_on : On L (trk L H) := fun _ _ e => trk_in e
/-! ### runs around a call -/
variable {P : Program} {w : World} {K : PySem.W.Frag} {mg : Str → Option Value} {base : Heap} {A : Around} {outer : List PySem.Env} {s s' : Shared} {Q Q2 : VK} {E E2 : XK} {u : Value} {h : Heap}
theorem hok_trk (hok : HOk P w H h) (off : Off L H) (hL : ∀ a o, L.lookup a = some o → h.get? a = some o) : HOk P w (DL.trk L H) h := fun a o e => by
  rcases trk_cases (L := L) (H := H) (a := a) with ⟨o', h1, h2⟩ | ⟨h1, h2⟩
  · rw [h2] at e
    cases e
    exact ⟨hL a o' h1, o', hL a o' h1⟩
  · rw [h2] at e
    refine (hok a o e).stay (fun b u _ q => q) (fun b q => ?_) fun b xs q => ?_
    · rcases trk_cases (L := L) (H := H) (a := b) with ⟨o', h3, h4⟩ | ⟨h3, h4⟩
      · rw [off b o' h3] at q; cases q
      · rw [h4]; exact q
    · rcases trk_cases (L := L) (H := H) (a := b) with ⟨o', h3, h4⟩ | ⟨h3, h4⟩
      · rw [off b o' h3] at q; cases q
      · rw [h4]; exact q
theorem hok_utr (hok : HOk P w H h) (on : On L H) : HOk P w (DL.utr L H) h := fun a o e => by
  rcases utr_cases (L := L) (H := H) (a := a) with ⟨o', h1, h2⟩ | ⟨h1, h2⟩
  · rw [h2] at e
    cases e
  · rw [h2] at e
    refine (hok a o e).stay (fun b u _ q => q) (fun b q => ?_) fun b xs q => ?_
    · rcases utr_cases (L := L) (H := H) (a := b) with ⟨o', h3, h4⟩ | ⟨h3, h4⟩
      · rw [on b o' h3] at q; cases q
      · rw [h4]; exact q
    · rcases utr_cases (L := L) (H := H) (a := b) with ⟨o', h3, h4⟩ | ⟨h3, h4⟩
      · rw [on b o' h3] at q; cases q
      · rw [h4]; exact q
structure PinOk (base : Heap) (outer : List PySem.Env) (L : PinL) (H : Hp) (h : Heap) : Prop where
  off : Off L H
  at_ : ∀ a o, L.lookup a = some o → h.get? a = some o
  nf : ∀ a o, L.lookup a = some o → a ∉ frs outer
  nb : ∀ a o, L.lookup a = some o → base.get? a = none
theorem env0_trk (e : Env0 P w K mg base A outer s H) (p : PinOk base outer L H s.heap) : Env0 P w K mg base A outer s (trk L H) where
  frames := e.frames
  mod := e.mod
  bs := fun b o q => ⟨(e.bs b o q).1, by
    rcases trk_cases (L := L) (H := H) (a := b) with ⟨o', h1, h2⟩ | ⟨h1, h2⟩
    · rw [p.nb b o' h1] at q; cases q
    · rw [h2]; exact (e.bs b o q).2⟩
  bsz := e.bsz
  funs := e.funs
  frf := fun b hb => by
    rcases trk_cases (L := L) (H := H) (a := b) with ⟨o', h1, h2⟩ | ⟨h1, h2⟩
    · exact absurd hb (p.nf b o' h1)
    · rw [h2]; exact e.frf b hb
  hok := hok_trk e.hok p.off p.at_
  bare := e.bare
theorem env0_utr (e : Env0 P w K mg base A outer s H) (on : On L H) : Env0 P w K mg base A outer s (utr L H) where
  frames := e.frames
  mod := e.mod
  bs := fun b o q => ⟨(e.bs b o q).1, by
    rcases utr_cases (L := L) (H := H) (a := b) with ⟨o', h1, h2⟩ | ⟨h1, h2⟩
    · exact h2
    · rw [h2]; exact (e.bs b o q).2⟩
  bsz := e.bsz
  funs := e.funs
  frf := fun b hb => by
    rcases utr_cases (L := L) (H := H) (a := b) with ⟨o', h1, h2⟩ | ⟨h1, h2⟩
    · exact h2
    · rw [h2]; exact e.frf b hb
  hok := hok_utr e.hok on
  bare := e.bare
/-- behind: the pins are taken off -/
theorem ce_utr (p : PinOk base outer L H s.heap) (h : CE outer P w (trk L H) s Q u s') (k : ∀ v H', On L H' → Q v H' → Q2 v (utr L H')) : CE outer P w H s Q2 u s' := by
  obtain ⟨v, H', os, bare, un, hok, r, q⟩ := h
  have on : On L H' := fun a o e => un.frzs a o _ (trk_in e)
  refine ⟨v, utr L H', os, bare, ⟨fun b o q n hb hx => ?_, fun b o q n hb hx => ?_, fun b o q n hx => ?_, fun b o q hx => un.there b o q hx, fun b xs q => ?_, fun b o u q => ?_, fun b ps q => ?_⟩, hok_utr hok on, r, k v H' on q⟩
  · rcases trk_cases (L := L) (H := H) (a := b) with ⟨o', h1, h2⟩ | ⟨h1, h2⟩
    · rw [p.at_ b o' h1] at q
      cases q
      exact (hok b _ (on b _ h1)).1
    · exact un.keep b o q (by rw [h2]; exact n) hb hx
  · rcases trk_cases (L := L) (H := H) (a := b) with ⟨o', h1, h2⟩ | ⟨h1, h2⟩
    · exact absurd hb (p.nf b o' h1)
    · exact un.slot b o q (by rw [h2]; exact n) hb hx
  · rcases trk_cases (L := L) (H := H) (a := b) with ⟨o', h1, h2⟩ | ⟨h1, h2⟩
    · exact utr_in h1
    · rw [utr_out h1]; exact un.free b o q (by rw [h2]; exact n) hx
  all_goals rcases trk_cases (L := L) (H := H) (a := b) with ⟨o', h1, h2⟩ | ⟨h1, h2⟩
  · rw [p.off b o' h1] at q; cases q
  · rw [utr_out h1]; exact un.tups b xs (by rw [h2]; exact q)
  · rw [p.off b o' h1] at q; cases q
  · rw [utr_out h1]; exact un.frzs b o u (by rw [h2]; exact q)
  · rw [p.off b o' h1] at q; cases q
  · rw [utr_out h1]; exact un.tbls b ps (by rw [h2]; exact q)
theorem cx_utr (p : PinOk base outer L H s.heap) (h : L2.CX P w outer (trk L H) s E u s') (k : ∀ c d H', On L H' → E c d H' → E2 c d (utr L H')) : L2.CX P w outer H s E2 u s' := by
  obtain ⟨a, B, H', cls, d, e, fl, hok, ub, na, os, bare, q⟩ := h
  have on : On L H' := fun a o e => ub.frzs a o _ (trk_in e)
  refine ⟨a, B, utr L H', cls, d, e, fl, hok_utr hok on, ⟨fun b o q n hb => ?_, ub.slot, fun b o q n => ?_, ub.there, fun b xs q => ?_, fun b o u q => ?_, fun b ps q => ?_⟩, ?_, os, bare, k cls d H' on q⟩
  · rcases trk_cases (L := L) (H := H) (a := b) with ⟨o', h1, h2⟩ | ⟨h1, h2⟩
    · rw [p.at_ b o' h1] at q
      cases q
      exact (hok b _ (on b _ h1)).1
    · exact ub.keep b o q (by rw [h2]; exact n) hb
  · rcases trk_cases (L := L) (H := H) (a := b) with ⟨o', h1, h2⟩ | ⟨h1, h2⟩
    · exact utr_in h1
    · rw [utr_out h1]; exact ub.free b o q (by rw [h2]; exact n)
  · rcases trk_cases (L := L) (H := H) (a := b) with ⟨o', h1, h2⟩ | ⟨h1, h2⟩
    · rw [p.off b o' h1] at q; cases q
    · rw [utr_out h1]; exact ub.tups b xs (by rw [h2]; exact q)
  · rcases trk_cases (L := L) (H := H) (a := b) with ⟨o', h1, h2⟩ | ⟨h1, h2⟩
    · rw [p.off b o' h1] at q; cases q
    · rw [utr_out h1]; exact ub.frzs b o u (by rw [h2]; exact q)
  · rcases trk_cases (L := L) (H := H) (a := b) with ⟨o', h1, h2⟩ | ⟨h1, h2⟩
    · rw [p.off b o' h1] at q; cases q
    · rw [utr_out h1]; exact ub.tbls b ps (by rw [h2]; exact q)
  · rcases utr_cases (L := L) (H := H') (a := a) with ⟨o', h1, h2⟩ | ⟨h1, h2⟩
    · exact h2
    · rw [h2]; exact na
/-- behind: the pins are put on again -/
theorem ce_trk (e0 : Env0 P w K mg base A outer s H) (on : On L H) (h : CE outer P w (utr L H) s Q u s') (k : ∀ v H', Off L H' → Q v H' → Q2 v (trk L H')) : CE outer P w H s Q2 u s' := by
  obtain ⟨v, H', os, bare, un, hok, r, q⟩ := h
  have hs : ∀ a o, L.lookup a = some o → s.heap.get? a = some o := fun a o e => (e0.hok a _ (on a o e)).1
  have nf : ∀ a o, L.lookup a = some o → a ∉ frs outer := fun a o e z => by
    have := e0.frf a z
    rw [on a o e] at this; cases this
  have off : Off L H' := fun a o e => un.free a o (hs a o e) (utr_in e) (by simp)
  have hs' : ∀ a o, L.lookup a = some o → s'.heap.get? a = some o := fun a o e => un.keep a o (hs a o e) (utr_in e) (nf a o e) (by simp)
  refine ⟨v, trk L H', os, bare, ⟨fun b o q n hb hx => ?_, fun b o q n hb hx => ?_, fun b o q n hx => ?_, fun b o q hx => un.there b o q hx, fun b xs q => ?_, fun b o u q => ?_, fun b ps q => ?_⟩, hok_trk hok off hs', r, k v H' off q⟩
  all_goals
    rcases utr_cases (L := L) (H := H) (a := b) with ⟨o', h1, h2⟩ | ⟨h1, h2⟩
  · rw [on b o' h1] at n; cases n
  · exact un.keep b o q (by rw [h2]; exact n) hb hx
  · rw [on b o' h1] at n; cases n
  · exact un.slot b o q (by rw [h2]; exact n) hb hx
  · rw [on b o' h1] at n; cases n
  · rw [trk_out h1]; exact un.free b o q (by rw [h2]; exact n) hx
  · rw [on b o' h1] at q; cases q
  · rw [trk_out h1]; exact un.tups b xs (by rw [h2]; exact q)
  · rw [on b o' h1] at q; cases q; exact trk_in h1
  · rw [trk_out h1]; exact un.frzs b o u (by rw [h2]; exact q)
  · rw [on b o' h1] at q; cases q
  · rw [trk_out h1]; exact un.tbls b ps (by rw [h2]; exact q)
theorem cx_trk (e0 : Env0 P w K mg base A outer s H) (on : On L H) (h : L2.CX P w outer (utr L H) s E u s') (k : ∀ c d H', Off L H' → E c d H' → E2 c d (trk L H')) : L2.CX P w outer H s E2 u s' := by
  obtain ⟨a, B, H', cls, d, e, fl, hok, ub, na, os, bare, q⟩ := h
  have hs : ∀ a o, L.lookup a = some o → s.heap.get? a = some o := fun a o e => (e0.hok a _ (on a o e)).1
  have nf : ∀ a o, L.lookup a = some o → a ∉ frs outer := fun a o e z => by
    have := e0.frf a z
    rw [on a o e] at this; cases this
  have off : Off L H' := fun a o e => ub.free a o (hs a o e) (utr_in e)
  have hs' : ∀ a o, L.lookup a = some o → B.get? a = some o := fun a o e => ub.keep a o (hs a o e) (utr_in e) (nf a o e)
  refine ⟨a, B, trk L H', cls, d, e, fl, hok_trk hok off hs', ⟨fun b o q n hb => ?_, ub.slot, fun b o q n => ?_, ub.there, fun b xs q => ?_, fun b o u q => ?_, fun b ps q => ?_⟩, ?_, os, bare, k cls d H' off q⟩
  · rcases utr_cases (L := L) (H := H) (a := b) with ⟨o', h1, h2⟩ | ⟨h1, h2⟩
    · rw [on b o' h1] at n; cases n
    · exact ub.keep b o q (by rw [h2]; exact n) hb
  · rcases utr_cases (L := L) (H := H) (a := b) with ⟨o', h1, h2⟩ | ⟨h1, h2⟩
    · rw [on b o' h1] at n; cases n
    · rw [trk_out h1]; exact ub.free b o q (by rw [h2]; exact n)
  · rcases utr_cases (L := L) (H := H) (a := b) with ⟨o', h1, h2⟩ | ⟨h1, h2⟩
    · rw [on b o' h1] at q; cases q
    · rw [trk_out h1]; exact ub.tups b xs (by rw [h2]; exact q)
  · rcases utr_cases (L := L) (H := H) (a := b) with ⟨o', h1, h2⟩ | ⟨h1, h2⟩
    · rw [on b o' h1] at q; cases q; exact trk_in h1
    · rw [trk_out h1]; exact ub.frzs b o u (by rw [h2]; exact q)
  · rcases utr_cases (L := L) (H := H) (a := b) with ⟨o', h1, h2⟩ | ⟨h1, h2⟩
    · rw [on b o' h1] at q; cases q
    · rw [trk_out h1]; exact ub.tbls b ps (by rw [h2]; exact q)
  · rcases trk_cases (L := L) (H := H') (a := a) with ⟨o', h1, h2⟩ | ⟨h1, h2⟩
    · have z := fl.2.1
      rw [hs' a o' h1] at z; cases z
    · rw [h2]; exact na
end
end DL

set_option Elab.async false
set_option linter.all false
set_option maxRecDepth 100000
set_option maxHeartbeats 2000000
/-! DL, part Q: a lambda's value, its call; calls that hand lambdas on. -/
namespace DL
open PySem PySem.Spec PyProof.Rows L2 NdefX LamX
def isPn : HO → Prop
  | .frz _ (.own _) => True
  | _ => False
def Sim (H1 H2 : Hp) : Prop := ∀ a o, H1 a = some o → ¬ isPn o → H2 a = some o
section
variable {g : Gb} {L : PinL} {H H1 H2 H' : Hp} {W W' : Wo} {S S' : Sto}
theorem sim_trk (off : Off L H) : Sim H (trk L H) := fun a o e _ => by
  rcases trk_cases (L := L) (H := H) (a := a) with ⟨o', h1, h2⟩ | ⟨h1, h2⟩
  · rw [off a o' h1] at e; cases e
  · rw [h2]; exact e
theorem sim_utr (on : On L H) : Sim H (utr L H) := fun a o e n => by
  rcases utr_cases (L := L) (H := H) (a := a) with ⟨o', h1, h2⟩ | ⟨h1, h2⟩
  · rw [on a o' h1] at e; cases e; exact absurd trivial n
  · rw [h2]; exact e
theorem fz_nPn {o : HO} (h : isFz o) : ¬ isPn o := fun z => by
  cases o with
  | frz x u => cases u <;> first | exact h | exact z
  | _ => first | exact h | exact z
theorem cl_nPn {o : HO} (h : isCl o) : ¬ isPn o := fun z => by cases o <;> first | exact h | exact z
theorem Sim.lo (m : Sim H1 H2) (st : g.Sta W H1 S) : Lo W H1 W H2 := ⟨fun _ h => h, ⟨[], by simp⟩, fun a o r h => m a o h (by
  obtain ⟨u, hu, hz⟩ := st.fz a r
  rw [h] at hu; cases hu
  exact fz_nPn hz)⟩
theorem Sta.sim (st : g.Sta W H1 S) (m : Sim H1 H2) : g.Sta W H2 S where
  fz := fun a r => by
    obtain ⟨u, hu, hz⟩ := st.fz a r
    exact ⟨u, m a u hu (fz_nPn hz), hz⟩
  nd := st.nd
  mR := st.mR
  len := st.len
  cells := fun l c a h1 h2 => by
    have h := st.cells l c a h1 h2
    obtain ⟨o, ho, hc⟩ := h.is
    exact h.lo (m.lo st) (fun o' q => m a o' q (by rw [ho] at q; cases q; exact cl_nPn hc)) fun b q => m b _ q fun z => z
  tabs := fun p hp => by
    obtain ⟨ps, h1, h2, h3⟩ := st.tabs p hp
    refine ⟨ps, m _ _ h1 (fun z => z), h2, fun pos cv hc => ?_⟩
    obtain ⟨c, e1, e2⟩ := h3 pos cv hc
    exact ⟨c, e1, m _ _ e2 fun z => z⟩
theorem ext_utr (e : Ext W (trk L H) W' H') (off : Off L H) : Ext W H W' (utr L H') where
  sub := e.sub
  pre := e.pre
  keep := fun a o h hm ht => by
    rcases trk_cases (L := L) (H := H) (a := a) with ⟨o', h1, h2⟩ | ⟨h1, h2⟩
    · rw [off a o' h1] at h; cases h
    · rw [utr_out h1]; exact e.keep a o (by rw [h2]; exact h) hm ht
  newR := fun a r => (e.newR a r).imp id fun n => by
    rcases trk_cases (L := L) (H := H) (a := a) with ⟨o', h1, h2⟩ | ⟨h1, h2⟩
    · exact off a o' h1
    · rw [← h2]; exact n
  newM := fun a r => (e.newM a r).imp id fun n => by
    rcases trk_cases (L := L) (H := H) (a := a) with ⟨o', h1, h2⟩ | ⟨h1, h2⟩
    · exact off a o' h1
    · rw [← h2]; exact n
  live := fun a n => by
    rcases trk_cases (L := L) (H := H) (a := a) with ⟨o', h1, h2⟩ | ⟨h1, h2⟩
    · exact off a o' h1
    · rw [utr_out h1] at n
      rw [← h2]; exact e.live a n
theorem ext_trk (e : Ext W (utr L H) W' H') (on : On L H) (off : Off L H') (st : g.Sta W' H' S') : Ext W H W' (trk L H') where
  sub := e.sub
  pre := e.pre
  keep := fun a o h hm ht => by
    rcases utr_cases (L := L) (H := H) (a := a) with ⟨o', h1, h2⟩ | ⟨h1, h2⟩
    · rw [on a o' h1] at h; cases h; exact trk_in h1
    · rw [trk_out h1]; exact e.keep a o (by rw [h2]; exact h) hm ht
  newR := fun a r => (e.newR a r).imp id fun n => by
    rcases utr_cases (L := L) (H := H) (a := a) with ⟨o', h1, h2⟩ | ⟨h1, h2⟩
    · obtain ⟨o, ho, _⟩ := st.fz a r
      rw [off a o' h1] at ho; cases ho
    · rw [← h2]; exact n
  newM := fun a r => (e.newM a r).imp id fun n => by
    rcases utr_cases (L := L) (H := H) (a := a) with ⟨o', h1, h2⟩ | ⟨h1, h2⟩
    · exact absurd r (st.noM (off a o' h1))
    · rw [← h2]; exact n
  live := fun a n => by
    rcases utr_cases (L := L) (H := H) (a := a) with ⟨o', h1, h2⟩ | ⟨h1, h2⟩
    · rw [trk_in h1] at n; cases n
    · rw [trk_out h1] at n
      rw [← h2]; exact e.live a n
theorem ExcOk.sim {e : Exn} {cls : Value} {d : Option Addr} (h : ExcOk g W H1 e cls d) (m : Sim H1 H2) (st : g.Sta W H1 S) : ExcOk g W H2 e cls d := by
  obtain ⟨C, h1, h2, h3⟩ := h
  refine ⟨C, h1, h2, h3.imp id fun ⟨x, fv, a1, a2, a3⟩ => ⟨x, fv, a1, m x _ a2 (fun z => z), a3.lo (m.lo st)⟩⟩
end
/-! ### a lambda is made -/
abbrev lamO (q : Str) (params : Arguments) (body : Expr) (scope : Scope) (cl : List (Str × Addr)) (pm : Value) (c' : Addr) (ctv : Value) : Obj := PySem.W.kla_obj "<lambda>" q params body scope cl pm c' ctv
section
variable {X : Cx} {pins : List (Addr × Obj)} {σ : L2.St} {H : Hp} {s : Shared}
theorem inv_pn {o : Obj} {t' : Nat} (I : Inv X pins σ H s) (hs : o.isFreed = false) : Inv X pins σ (upd H s.heap.objs.size (Pn o)) { s with heap := s.heap.push o, toks := t' } := by
  refine I.laid (a := s.heap.objs.size) (fun b u e => Heap.get?_push_of_some _ e) (Nat.le_refl _) ?_
  have e : (s.heap.push o).get? s.heap.objs.size = some o := Heap.get?_push_size _ hs
  exact ⟨e, o, e⟩
theorem lam_makeP {T : List NTab} {nm : Nat → Nat → Str} {c P : Addr} {params : Arguments} {body : Expr} {scope : Scope} {pos : Pos} {E : Value → Shared → Prop} {Q : Value → Shared → Prop} (I : Inv X pins σ H s) (TB : TabB X.base X.mg c P) (hcode : X.env.code = .ref c)
    (hm : (P, nm) ∈ T) (hn : nm pos.line pos.col = X.env.qual ++ "<lambda>") (hu : ∀ p ∈ T, p.1 = P → p.2 = nm) (hT : TabsN T H) (hdef : defaultsOf params X.env = ([], [])) (hfree : ∀ y ∈ scope.names, y.2 = .free → ∃ c, X.env.cells.lookup y.1 = some c)
    (h : ∀ (f c' : Addr) (pm ctv : Value) (H1 : Hp) (s' : Shared), Inv X pins σ H1 s' → ExtN H H1 → (∀ b, H1 b = Option.none → H b = Option.none) → TabsN T H1 → H f = none →
      H1 f = some (Pn (lamO (X.env.qual ++ "<lambda>") params body scope (cloFrom X.env.cells scope.names []) pm c' ctv)) → H1 c' = some (CodeO c' (X.env.qual ++ "<lambda>")) → Q (.ref f) s') :
    wpAny (model X.prog X.w) X.A (eval (.Lambda params body scope pos) X.env) Q E s := by
  obtain ⟨ps, hP, ht, ha⟩ := (show TabN H P nm from hT _ hm)
  refine PySem.W.kla_eval hdef ?_
  have bP : s.heap.BuiltinsAt X.mg P := TB.bm.keeps I.bk
  have hP' : s.heap.get? P = some { cls := .none, data := .fields ps } := I.hok P _ hP
  cases hc : codeAmong pos ps.toList with
  | none =>
    refine PySem.W.kla_makeFunction (mg := X.mg) (c := c) (P := P) (ps := ps) (closure_ok hfree) I.ok.glob (I.mod.glob.keeps I.bk) hcode (TB.code.keeps I.bk) hP' ht hc TB.gP bP fun c' ctv h' tk hx hge hlt hrec htb => ?_
    obtain ⟨c2, oc, vs, t, e2, hoc, hd, hv⟩ := hrec
    cases e2
    have nC : H c' = none := I.hok.fresh hge
    have I1 := inv_table (t' := tk) (more := #[rawInt pos.line, rawInt pos.col, .ref c']) (h' := h') I hP (fun b o hb e => hx b o hb e) htb hge ⟨oc, vs, t, hoc, hd, hv⟩
    have hE : ExtN H (upd (upd H P (.tbl (ps ++ #[rawInt pos.line, rawInt pos.col, .ref c']))) c' (CodeO c' (X.env.qual ++ "<lambda>"))) := fun b o e n => by
      rw [upd_ne (ne_of_none e nC), upd_ne (fun z => n ps (Option.some.inj (e.symm.trans (by rw [z]; exact hP))))]
      exact e
    have eL : (ps ++ #[rawInt pos.line, rawInt pos.col, .ref c']).toList = ps.toList ++ [rawInt pos.line, rawInt pos.col, .ref c'] := by simp
    have T1 : TabsN T (upd (upd H P (.tbl (ps ++ #[rawInt pos.line, rawInt pos.col, .ref c']))) c' (CodeO c' (X.env.qual ++ "<lambda>"))) := fun p hp => by
      by_cases hb : p.1 = P
      · rw [hu p hp hb, hb]
        refine ⟨_, by rw [upd_ne (ne_of_none hP nC), upd_same], by rw [eL]; exact PySem.TriplesOk_snoc _ _ _ _ ht, fun p' cv hcv => ?_⟩
        rw [eL] at hcv
        rcases among_app2 _ ht hcv with z | ⟨z, z1, z2⟩
        · obtain ⟨c0, e1, e2⟩ := ha p' cv z
          exact ⟨c0, e1, hE _ _ e2 codeO_ne⟩
        · refine ⟨c', z, ?_⟩
          rw [← z1, ← z2, hn]
          exact upd_same
      · obtain ⟨ps', a1, a2, a3⟩ := hT p hp
        refine ⟨ps', by rw [upd_ne (ne_of_none a1 nC), upd_ne hb]; exact a1, a2, fun p' cv hcv => ?_⟩
        obtain ⟨c0, e1, e2⟩ := a3 p' cv hcv
        exact ⟨c0, e1, hE _ _ e2 codeO_ne⟩
    have nF := I1.hok.fresh (Nat.le_refl _)
    have I2 := inv_pn (t' := tk) (o := lamO (X.env.qual ++ "<lambda>") params body scope (cloFrom X.env.cells scope.names []) ((X.mg "__name__").getD .none) c' ctv) I1 rfl
    refine h h'.objs.size c' _ ctv _ _ I2 (fun b o e n => ?_) (fun b e => upd_none (upd_none (upd_none e))) (T1.ext fun b o e => ?_) (I.hok.fresh (Nat.le_trans hge (Nat.le_of_lt hlt))) upd_same ?_
    · have e1 := hE b o e n
      exact (upd_ne (ne_of_none e1 nF)).trans e1
    · exact (upd_ne (ne_of_none e nF)).trans e
    · exact (upd_ne (Nat.ne_of_lt hlt)).trans upd_same
  | some cv =>
    obtain ⟨c', e, hco⟩ := ha pos cv hc
    subst e
    rw [hn] at hco
    refine PySem.W.kla_makeFunctionHit (mg := X.mg) (c := c) (P := P) (ps := ps) (closure_ok hfree) I.ok.glob (I.mod.glob.keeps I.bk) hcode (TB.code.keeps I.bk) hP' ht hc bP fun ctv h' tk hx hsz => ?_
    have I1 : Inv X pins σ H { s with heap := h', toks := tk } := I.kept hx
    have nF : H h'.objs.size = none := I1.hok.fresh (Nat.le_refl _)
    have I2 := inv_pn (t' := tk) (o := lamO (X.env.qual ++ "<lambda>") params body scope (cloFrom X.env.cells scope.names []) ((X.mg "__name__").getD .none) c' ctv) I1 rfl
    refine h h'.objs.size c' _ ctv _ _ I2 (fun b o e n => ?_) (fun b e => upd_none e) (hT.ext fun b o e => ?_) nF upd_same ?_
    · exact (upd_ne (ne_of_none e nF)).trans e
    · exact (upd_ne (ne_of_none e nF)).trans e
    · exact (upd_ne (ne_of_none hco nF)).trans hco
end
/-! ### its body runs -/
/-- the words that the body's context asks -/
abbrev lamF (q : Str) (params : Arguments) (scope : Scope) (cl : List (Str × Addr)) (c' : Addr) : NF := ⟨"<lambda>", q, params, [], scope, cl, c'⟩
theorem lam_run {P : Program} {w : World} {K : PySem.W.Frag} {mg : Str → Option Value} {base : Heap} {CX : CXT} {N ps fr : List Str} {q : Str} {params : Arguments} {body : Expr} {scope : Scope} {cl : List (Str × Addr)} {pm ctv : Value} {c' f : Addr} {k : Nat}
    (Sc : NScope N ps fr scope) (hb : ∀ us : List Value, us.length = ps.length → bindArgs (PySem.W.kla_fn "<lambda>" q params body scope cl pm (.ref c') ctv) ⟨us, []⟩ = pure (ps.zip us))
    {A : Around} {outer : List PySem.Env} {s : Shared} {H : Hp} {us : List Value} {vs : List V} {ws : List (Option V)} {Q : VK} {E : XK} {t : TE} (hr : Room (k + 1) A) (e0 : Env0 P w K mg base A outer s H)
    (ho : s.heap.get? f = some (lamO q params body scope cl pm c' ctv)) (hc : H c' = some (CodeO c' q)) (C : CellsAt cl fr ws s.heap H) (r : Vals vs us) (hl : vs.length = ps.length)
    (hbody : Room k (A.deeper (envF (lamF q params scope cl c') f s.heap.objs.size)) → PE (ncx CX P w K mg base N (lamF q params scope cl c') f A outer s H E) body t) (hq : t (startF N vs ws) H Q) :
    codeAny (model P w) A (.call (.ref f) ⟨us, []⟩) (CR CX outer P w H s Q E) s := by
  have lim : s.heap.NoLimit := e0.mod.nolimit.keeps fun b o e => (e0.bs b o e).1
  obtain ⟨⟨oc, vs', t', hoc, hd, hv⟩, _, _⟩ := e0.hok c' _ hc
  refine PySem.W.kla_callFunE hr.depth ho rfl Sc.co Sc.gen rfl ⟨c', oc, vs', t', rfl, hoc, hd, hv⟩ ?_
  rw [hb us (by rw [← r.length]; exact hl)]
  refine wpAny_pure (wpAny_newFunctionEnv Sc.nocell (fun ⟨n, _⟩ hy => Sc.par n (List.of_mem_zip hy).1) (fun h₁ hns hsb => ⟨lim.fresh _ hsb, ?_⟩) Sc.kind)
  have kp : ∀ b o, s.heap.get? b = some o → h₁.get? b = some o := fun b o e => hsb.extBut b o (Nat.ne_of_lt (Heap.lt_size e)) (Heap.get?_push_of_some _ e)
  have I : Inv (ncx CX P w K mg base N (lamF q params scope cl c') f A outer s H E) [] (startF N vs ws) H { s with heap := h₁, toks := s.toks + (ps.zip us).length } := inv_startN Sc hr.hd e0 hl r C hns kp
  refine PySem.W.kla_codeExpr (wpAny_mono ((hbody (hr.deeper _)).run [] _ (startF N vs ws) H Q I hq) (fun u s' hs => ?_) fun e s' hs => hs)
  obtain ⟨v, H', J, rv, q'⟩ := hs
  exact ⟨v, H', J.os, J.bare, J.base, J.hok, rv, q'⟩
end DL

set_option Elab.async false
set_option linter.all false
set_option maxRecDepth 100000
set_option maxHeartbeats 2000000
/-! DL, part R: closures as arguments, their calls. -/
namespace DL
open PySem PySem.Spec PyProof.Rows L2 NdefX LamX
def capS (ρ : Env) (j : Nat) : Slot := match ρ[j]? with
  | some (.fz d) => .fz d
  | _ => .un
/-- what a lambda of n parameters does; js: where its captured names stand, m: its other names -/
def lamG (n : Nat) (js : List Nat) (m : Nat) (eb : Ev) (ρ : Env) : List D → Sto → Res D := fun ds S => if ds.length = n then eb (ds.map .fz ++ (js.map (capS ρ) ++ List.replicate m .un)) S else .bad
/-- the captured cells, pinned -/
structure LOk (cl : List (Str × Addr)) (fr : List Str) (ws : List (Option V)) (L : PinL) : Prop where
  len : ws.length = fr.length
  all : ∀ y c, cl.lookup y = some c → ∃ o ov, L.lookup c = some o ∧ o.data = .cell ov
  inj : ∀ x y c, cl.lookup x = some c → cl.lookup y = some c → x = y
  has : ∀ (i : Nat) (y : Str), fr[i]? = some y → ∃ c o ov, cl.lookup y = some c ∧ L.lookup c = some o ∧ o.data = .cell ov ∧ ∀ v, ws[i]? = some (some v) → ∃ u, ov = some u ∧ L2.RelV v u
section
variable {g : Gb} {L : PinL} {H H1 H' H₀ : Hp} {W W1 W' : Wo} {S S1 S' : Sto} {ρ : DL.Env} {σ : L2.St}
theorem LOk.cells {cl : List (Str × Addr)} {fr : List Str} {ws : List (Option V)} (l : LOk cl fr ws L) {h : Heap} (off : Off L H) (hL : ∀ a o, L.lookup a = some o → h.get? a = some o) : CellsAt cl fr ws h H := by
  refine ⟨l.len, fun y c e => ?_, l.inj, fun i y e => ?_⟩
  · obtain ⟨o, ov, h1, h2⟩ := l.all y c e
    exact ⟨off c o h1, ov, o, hL c o h1, h2⟩
  · obtain ⟨c, o, ov, h1, h2, h3, h4⟩ := l.has i y e
    refine ⟨c, h1, fun v hv => ?_⟩
    obtain ⟨u, hu, r⟩ := h4 v hv
    subst hu
    exact ⟨u, r, o, hL c o h2, h3⟩
theorem envOk3 {ds : List D} {vs : List V} {js : List Nat} {m m' : Nat} (rs : g.Reps W H ds vs) (hc : ∀ (j : Nat) d, ρ[j]? = some (Slot.fz d) → ∃ v, σ[j]? = some (some v) ∧ g.Rep W H d v) (hm : m = m') :
    EnvOk g W H H₀ (ds.map .fz ++ (js.map (capS ρ) ++ List.replicate m .un)) (vs.map some ++ (js.map (slotAt σ) ++ List.replicate m' none)) := by
  subst hm
  have hl : vs.length = ds.length := rs.len
  refine ⟨by simp [hl], fun i s ov h1 h2 => ?_, fun i j d e p _ h1 _ _ _ => ?_⟩
  · by_cases hi : i < ds.length
    · rw [List.getElem?_append_left (by rw [List.length_map]; exact hi), List.getElem?_map] at h1
      rw [List.getElem?_append_left (by rw [List.length_map]; omega), List.getElem?_map] at h2
      obtain ⟨v, hv, r⟩ := rs.get (i := i) (d := ds[i]) (by simp [hi])
      rw [hv] at h2
      simp [hi] at h1 h2
      subst h1 h2
      exact ⟨v, rfl, r⟩
    · rw [List.getElem?_append_right (by rw [List.length_map]; omega), List.length_map] at h1
      rw [List.getElem?_append_right (by rw [List.length_map]; omega), List.length_map, hl] at h2
      generalize i - ds.length = k at h1 h2
      by_cases hk : k < js.length
      · rw [List.getElem?_append_left (by rw [List.length_map]; exact hk), List.getElem?_map] at h1 h2
        simp [hk] at h1 h2
        subst h1 h2
        cases e : ρ[js[k]]? with
        | none => simp only [capS, e]; exact trivial
        | some s =>
          cases s with
          | fz d =>
            obtain ⟨v, hv, r⟩ := hc _ d e
            simp only [capS, e]
            exact ⟨v, slotAt_of hv, r⟩
          | _ => simp only [capS, e]; exact trivial
      · rw [List.getElem?_append_right (by rw [List.length_map]; omega), List.getElem?_replicate] at h1
        split at h1
        · cases h1; trivial
        · cases h1
  · have hm := List.mem_of_getElem? h1
    rcases List.mem_append.mp hm with z | z
    · obtain ⟨_, _, z⟩ := List.mem_map.mp z
      cases z
    · rcases List.mem_append.mp z with z | z
      · obtain ⟨j', _, z⟩ := List.mem_map.mp z
        unfold capS at z
        split at z <;> cases z
      · have := List.eq_of_mem_replicate z
        cases this
/-- a lambda that stands in the heap does what its body says, wherever it is called while its cells are pinned -/
theorem clo_of {N ps fr : List Str} {q : Str} {params : Arguments} {body : Expr} {scope : Scope} {cl : List (Str × Addr)} {pm ctv : Value} {c' f : Addr} {k m : Nat} {js : List Nat} {eb : Ev}
    (Sc : NScope N ps fr scope) (hk : g.k = k + 1) (hb : ∀ us : List Value, us.length = ps.length → bindArgs (PySem.W.kla_fn "<lambda>" q params body scope cl pm (.ref c') ctv) ⟨us, []⟩ = pure (ps.zip us)) (hm : N.length = ps.length + fr.length + m)
    (hbody : ∀ (A : Around) (outer : List PySem.Env) (s : Shared) (H : Hp) (E : XK), Room k (A.deeper (envF (lamF q params scope cl c') f s.heap.objs.size)) →
      PE (ncx (L2.CX g.P g.w) g.P g.w g.K g.mg g.base N (lamF q params scope cl c') f A outer s H E) body (rd g (fun c d _ H' => E c d H') H (rlR g) eb))
    (st : g.Sta W1 H1 S1) (en : EnvOk g W1 H1 H₀ ρ σ) (off : Off L H1) (l : LOk cl fr (js.map (slotAt σ)) L) (hf : H1 f = some (Pn (lamO q params body scope cl pm c' ctv))) (hc : H1 c' = some (CodeO c' q)) :
    CloOk g W1 (trk L H1) (lamG ps.length js m eb ρ) (.ref f) := by
  have hfL : L.lookup f = none := by
    cases e : L.lookup f with
    | none => rfl
    | some o => rw [off f o e] at hf; cases hf
  have hcL : L.lookup c' = none := by
    cases e : L.lookup c' with
    | none => rfl
    | some o => rw [off c' o e] at hc; cases hc
  have hjl : js.length = fr.length := by have := l.len; rwa [List.length_map] at this
  refine ⟨f, rfl, fun W' H' fu => ?_⟩
  have f' : H' f = some (Pn (lamO q params body scope cl pm c' ctv)) := fu.xt f _ (by rw [trk_out hfL]; exact hf) trivial
  have c'' : H' c' = some (CodeO c' q) := fu.xt c' _ (by rw [trk_out hcL]; exact hc) trivial
  have on : On L H' := fun a o e => fu.xt a _ (trk_in e) trivial
  refine ⟨fun h hok => ⟨_, _, _, _, (hok f _ f').1⟩, fun A outer s us vs Q E hr e0 rv hcl => ?_⟩
  obtain ⟨S, ds, st', rs, hG⟩ := hcl
  have hG : (match (if ds.length = ps.length then eb (ds.map .fz ++ (js.map (capS ρ) ++ List.replicate m .un)) S else .bad) with
    | .ok d S' => ∀ v W2 H2, Ext W' H' W2 H2 → g.Sta W2 H2 S' → g.Rep W2 H2 d v → Q v H2
    | .exc e S' => ∀ W2 H2 cls x, Ext W' H' W2 H2 → g.Sta W2 H2 S' → ExcOk g W2 H2 e cls x → E cls x H2
    | .bad => False) := hG
  by_cases hlen : ds.length = ps.length
  case neg => rw [if_neg hlen] at hG; exact hG.elim
  rw [if_pos hlen] at hG
  have hs : ∀ a o, L.lookup a = some o → s.heap.get? a = some o := fun a o e => (e0.hok a _ (on a o e)).1
  have C := l.cells (H := utr L H') utr_off hs
  have stu : g.Sta W' (utr L H') S := st'.sim (sim_utr on)
  have rsu : g.Reps W' (utr L H') ds vs := rs.lo ((sim_utr on).lo st')
  rw [hk] at hr
  have key : rd g (fun c d _ H2 => Off L H2 → E c d (trk L H2)) (utr L H') (rlR g) eb (startF N vs (js.map (slotAt σ))) (utr L H') (fun v H2 => Off L H2 → Q v (trk L H2)) := by
    refine ⟨W', ds.map .fz ++ (js.map (capS ρ) ++ List.replicate m .un), S, stu, ?_, ?_⟩
    · refine envOk3 rsu (fun j d e => ?_) (by have := rs.len; simp only [List.length_map]; omega)
      obtain ⟨ov, h1, v, rfl, h3⟩ := en.get e
      exact ⟨v, h1, ((h3.lo ((sim_trk off).lo st)).lo fu.lo).lo ((sim_utr on).lo st')⟩
    · revert hG
      cases eb (ds.map .fz ++ (js.map (capS ρ) ++ List.replicate m .un)) S with
      | ok d S' => exact fun hG v W2 H2 e2 s2 p2 of2 => hG v W2 (trk L H2) (ext_trk e2 on of2 s2) (s2.sim (sim_trk of2)) (Rep.lo ((sim_trk of2).lo s2) p2)
      | exc x S' => exact fun hG W2 H2 cls y e2 s2 p2 of2 => hG W2 (trk L H2) cls y (ext_trk e2 on of2 s2) (s2.sim (sim_trk of2)) (p2.sim (sim_trk of2) s2)
      | bad => exact fun hG => hG
  refine codeAny_mono (lam_run (CX := L2.CX g.P g.w) (E := fun c d H2 => Off L H2 → E c d (trk L H2)) (Q := fun v H2 => Off L H2 → Q v (trk L H2)) Sc hb hr (env0_utr e0 on) ((e0.hok f _ f').1) (by rw [utr_out hcL]; exact c'') C rv (by rw [rs.len, hlen]) (hbody _ _ _ _ _) key) fun r s' h => ?_
  cases r with
  | error e => exact cx_trk e0 on h fun c d H2 of2 q => q of2
  | ok fl =>
    cases fl with
    | ret u => exact ce_trk e0 on h fun v H2 of2 q => q of2
    | next => exact h
    | brk => exact h
    | cont => exact h
end
end DL

set_option Elab.async false
set_option linter.all false
set_option maxRecDepth 100000
set_option maxHeartbeats 2000000
/-! DL, part S: calls that hand lambdas on; calls of what was handed in. -/
namespace DL
open PySem PySem.Spec PyProof.Rows L2 NdefX LamX
/-! ### the cells of a frame, pinned -/
def LX (X : Cx) (σ : L2.St) (cs : List Str) (L : PinL) : Prop := ∀ y ∈ cs, ∃ c o ov, X.env.cells.lookup y = some c ∧ L.lookup c = some o ∧ o.data = .cell ov ∧ ∀ (j : Nat) (v : V), X.N[j]? = some y → σ[j]? = some (some v) → ∃ u, ov = some u ∧ RelV v u
def pinsOf (cells : List (Str × Addr)) (h : Heap) : List Str → PinL
  | [] => []
  | y :: cs => (match cells.lookup y with
    | some c => (match h.get? c with
      | some o => (c, o) :: pinsOf cells h cs
      | none => pinsOf cells h cs)
    | none => pinsOf cells h cs)
theorem lookup_cons_addr {a c : Addr} {o : Obj} {L : PinL} : ((c, o) :: L).lookup a = if a = c then some o else L.lookup a := by
  show (match a == c with | true => some o | false => L.lookup a) = _
  by_cases h : a = c
  · subst h; simp
  · have : (a == c) = false := beq_eq_false_iff_ne.mpr h
    rw [this, if_neg h]
theorem pinsOf_at {cells : List (Str × Addr)} {h : Heap} {a : Addr} {o : Obj} : ∀ {cs : List Str}, (pinsOf cells h cs).lookup a = some o → h.get? a = some o ∧ ∃ y ∈ cs, cells.lookup y = some a
  | [], e => by cases e
  | y :: cs, e => by
    unfold pinsOf at e
    split at e
    · rename_i c hc
      split at e
      · rename_i o' ho
        rw [lookup_cons_addr] at e
        split at e
        · rename_i hac
          subst hac
          cases e
          exact ⟨ho, y, List.mem_cons_self .., hc⟩
        · obtain ⟨h1, y', h2, h3⟩ := pinsOf_at e
          exact ⟨h1, y', List.mem_cons_of_mem _ h2, h3⟩
      · obtain ⟨h1, y', h2, h3⟩ := pinsOf_at e
        exact ⟨h1, y', List.mem_cons_of_mem _ h2, h3⟩
    · obtain ⟨h1, y', h2, h3⟩ := pinsOf_at e
      exact ⟨h1, y', List.mem_cons_of_mem _ h2, h3⟩
theorem pinsOf_has {cells : List (Str × Addr)} {h : Heap} {y : Str} {c : Addr} {o : Obj} (hc : cells.lookup y = some c) (ho : h.get? c = some o) : ∀ {cs : List Str}, y ∈ cs → (pinsOf cells h cs).lookup c = some o
  | [], e => by cases e
  | z :: cs, e => by
    unfold pinsOf
    rcases List.mem_cons.mp e with e | e
    · subst e
      rw [hc]
      show ((match h.get? c with | some o => (c, o) :: pinsOf cells h cs | none => pinsOf cells h cs) : PinL).lookup c = _
      rw [ho]
      show ((c, o) :: pinsOf cells h cs).lookup c = _
      rw [lookup_cons_addr, if_pos rfl]
    · split
      · split
        · rename_i o' ho'
          rw [lookup_cons_addr]
          split
          · rename_i h1
            subst h1
            rw [ho] at ho'
            exact ho'.symm
          · exact pinsOf_has hc ho e
        · exact pinsOf_has hc ho e
      · exact pinsOf_has hc ho e
section
variable {X : Cx} {pins : List (Addr × Obj)} {σ : L2.St} {H : Hp} {s : Shared} {cs : List Str}
theorem pins_ok (I : Inv X pins σ H s) (hfn : ∀ y ∈ cs, X.fn y = true) (hcell : ∀ y ∈ cs, X.env.scope.names.lookup y = some .cell) :
    PinOk X.base X.stack (pinsOf X.env.cells s.heap cs) H s.heap ∧ LX X σ cs (pinsOf X.env.cells s.heap cs) := by
  refine ⟨⟨fun a o e => ?_, fun a o e => (pinsOf_at e).1, fun a o e z => ?_, fun a o e => ?_⟩, fun y hy => ?_⟩
  · obtain ⟨h1, y, h2, h3⟩ := pinsOf_at e
    exact I.freeC y a h3
  · obtain ⟨h1, y, h2, h3⟩ := pinsOf_at e
    have hab := I.ok.cab y a (hfn y h2) h3
    rcases List.mem_cons.mp (I.stkSub a z) with z | z
    · exact I.cne y a h3 z
    · obtain ⟨_, o', ho, _⟩ := I.ok.funs.mem z
      exact absurd (Heap.lt_size ho) (Nat.not_lt.mpr hab)
  · obtain ⟨h1, y, h2, h3⟩ := pinsOf_at e
    have hab := I.ok.cab y a (hfn y h2) h3
    cases q : X.base.get? a with
    | none => rfl
    | some o' => exact absurd (Nat.lt_of_lt_of_le (Heap.lt_size q) I.ok.bsz) (Nat.not_lt.mpr hab)
  · obtain ⟨c, hc⟩ := I.ok.has y (.inl (hcell y hy))
    obtain ⟨v, o, ho, hd⟩ := I.cell y c hc
    refine ⟨c, o, v, hc, pinsOf_has hc ho hy, hd, fun j x hj hs => ?_⟩
    obtain ⟨m, _, hl⟩ := I.loc
    obtain ⟨u, r, lk⟩ := hl j y x hj hs (.inr (.inl (hcell y hy)))
    rcases lk with ⟨k, _⟩ | ⟨_, c2, h2, o2, ho2, hd2⟩
    · have k : X.env.scope.names.lookup y = some .local := k
      rw [hcell y hy] at k; cases k
    · rw [hc] at h2
      cases h2
      rw [ho] at ho2
      cases ho2
      rw [hd] at hd2
      exact ⟨u, by cases hd2; rfl, r⟩
end
/-! ### argument lists -/
def PreC (X : Cx) (g : Gb) (cs : List Str) (H₀ : Hp) (ρ : DL.Env) (σ : L2.St) (W : Wo) (H : Hp) (G : List D → Sto → Res D) (v : V) : Prop :=
  X.Ok → ∀ W' H' S', Fu W H W' H' → g.Sta W' H' S' → EnvOk g W' H' H₀ ρ σ → ∀ L, Off L H' → LX X σ cs L → CloOk g W' (trk L H') G v
def PreA (X : Cx) (g : Gb) (cs : List Str) (H₀ : Hp) (ρ : DL.Env) (σ : L2.St) (W : Wo) (H : Hp) : List Slot → List V → Prop
  | [], vs => vs = []
  | .fz d :: ss, vs => ∃ v r, vs = v :: r ∧ g.Rep W H d v ∧ PreA X g cs H₀ ρ σ W H ss r
  | .cl G :: ss, vs => ∃ v r, vs = v :: r ∧ PreC X g cs H₀ ρ σ W H G v ∧ PreA X g cs H₀ ρ σ W H ss r
  | _ :: _, _ => False
abbrev Ea := DL.Env → Sto → Res (List Slot)
def rdA (X : Cx) (g : Gb) (cs : List Str) (Wx : WX) (H₀ : Hp) (n : Nat) (f : Ea) : TA := fun σ H Q => ∃ W ρ S, g.Sta W H S ∧ EnvOk g W H H₀ ρ σ ∧ match f ρ S with
  | .ok ss S' => ∀ vs W' H', Ext W H W' H' → g.Sta W' H' S' → PreA X g cs H₀ ρ σ W' H' ss vs ∧ ss.length = n → Q vs H'
  | .exc e S' => ∀ W' H' cls x, Ext W H W' H' → g.Sta W' H' S' → ExcOk g W' H' e cls x → Wx cls x σ H'
  | .bad => False
def kNil : Ea := fun _ S => .ok [] S
def kCons (a : Ev) (r : Ea) : Ea := fun ρ S => (a ρ S).bind fun x S1 => (r ρ S1).bind fun xs S2 => .ok (.fz x :: xs) S2
/-- a lambda; a name that holds one -/
def kLam (G : DL.Env → List D → Sto → Res D) (r : Ea) : Ea := fun ρ S => (r ρ S).bind fun xs S2 => .ok (.cl (G ρ) :: xs) S2
def kClo (i : Nat) (r : Ea) : Ea := fun ρ S => match ρ[i]? with
  | some (.cl G) => (r ρ S).bind fun xs S2 => .ok (.cl G :: xs) S2
  | some (.fz d) => (r ρ S).bind fun xs S2 => .ok (.fz d :: xs) S2
  | _ => .bad
section
variable {X : Cx} {g : Gb} {cs : List Str} {Wx : WX} {H₀ : Hp} {a e : Expr} {es : List Expr} {f fa : Ev} {fs : Ea} {n : Nat} {pos p : Pos} {ρ : DL.Env} {σ : L2.St} {W W' : Wo} {H H' : Hp} {S : Sto}
theorem PreA.ext (st : g.Sta W H S) (e : Ext W H W' H') : ∀ {ss : List Slot} {vs : List V}, PreA X g cs H₀ ρ σ W H ss vs → PreA X g cs H₀ ρ σ W' H' ss vs
  | [], _, h => h
  | .fz d :: ss, _, ⟨v, r, h1, h2, h3⟩ => ⟨v, r, h1, Rep.ext e st h2, PreA.ext st e h3⟩
  | .cl G :: ss, _, ⟨v, r, h1, h2, h3⟩ => ⟨v, r, h1, fun ok W2 H2 S2 fu => h2 ok W2 H2 S2 ((e.fu st).trans fu), PreA.ext st e h3⟩
theorem rdA_ev {Q : List V → Hp → Prop} {α β : Type} {P : Rl α β} {fx : DL.Env → Sto → Res α} {k : α → Sto → Res (List Slot)} {Q1 : β → Hp → Prop} (st : g.Sta W H S) (en : EnvOk g W H H₀ ρ σ)
    (h : match (fx ρ S).bind k with
      | .ok ss S' => ∀ vs W' H', Ext W H W' H' → g.Sta W' H' S' → PreA X g cs H₀ ρ σ W' H' ss vs ∧ ss.length = n → Q vs H'
      | .exc e S' => ∀ W' H' cls x, Ext W H W' H' → g.Sta W' H' S' → ExcOk g W' H' e cls x → Wx cls x σ H'
      | .bad => False)
    (c : ∀ v W1 H1 S1 a, Ext W H W1 H1 → g.Sta W1 H1 S1 → EnvOk g W1 H1 H₀ ρ σ → P H W1 H1 a v → (match k a S1 with
      | .ok ss S' => ∀ vs W' H', Ext W1 H1 W' H' → g.Sta W' H' S' → PreA X g cs H₀ ρ σ W' H' ss vs ∧ ss.length = n → Q vs H'
      | .exc e S' => ∀ W' H' cls x, Ext W1 H1 W' H' → g.Sta W' H' S' → ExcOk g W' H' e cls x → Wx cls x σ H'
      | .bad => False) → Q1 v H1) : rd g Wx H₀ P fx σ H Q1 := by
  refine ⟨W, ρ, S, st, en, ?_⟩
  revert h
  cases fx ρ S with
  | ok a S1 =>
    refine fun h v W1 H1 e1 s1 p => c v W1 H1 S1 a e1 s1 (en.ext e1 st) p ?_
    have h : (match k a S1 with
      | .ok ss S' => ∀ vs W' H', Ext W H W' H' → g.Sta W' H' S' → PreA X g cs H₀ ρ σ W' H' ss vs ∧ ss.length = n → Q vs H'
      | .exc e S' => ∀ W' H' cls x, Ext W H W' H' → g.Sta W' H' S' → ExcOk g W' H' e cls x → Wx cls x σ H'
      | .bad => False) := h
    revert h
    cases k a S1 with
    | ok ss S' => exact fun h vs W2 H2 e2 => h vs W2 H2 (e1.trans e2)
    | exc x S' => exact fun h W2 H2 cls y e2 => h W2 H2 cls y (e1.trans e2)
    | bad => exact fun h => h
  | exc x S1 => exact fun h => h
  | bad => exact fun h => h
theorem k_nil : PA X [] (rdA X g cs Wx H₀ 0 kNil) := pa_nil.imp fun σ H Q ⟨W, ρ, S, st, en, h⟩ => h [] W H Ext.refl st ⟨rfl, rfl⟩
theorem k_cons (ha : PE X a (rd g Wx H₀ (rlR g) fa)) (hr : PA X es (rdA X g cs Wx H₀ n fs)) (hs : starEach (a :: es) X.env = (false, eval a X.env) :: starEach es X.env := by rfl) : PA X (a :: es) (rdA X g cs Wx H₀ (n + 1) (kCons fa fs)) :=
  (pa_cons ha hr hs).imp fun σ H Q ⟨W, ρ, S, st, en, h⟩ => rdA_ev (P := rlR g) (Q := Q) (n := n + 1) (cs := cs) (k := fun x S1 => (fs ρ S1).bind fun xs S2 => .ok (.fz x :: xs) S2) st en h fun x W1 H1 S1 d e1 s1 n1 p1 h1 => by
    refine ⟨W1, ρ, S1, s1, n1, ?_⟩
    revert h1
    cases fs ρ S1 with
    | ok ss S2 => exact fun h1 vs W2 H2 e2 s2 p2 => h1 _ W2 H2 e2 s2 ⟨⟨x, vs, rfl, Rep.ext e2 s1 p1, p2.1⟩, by rw [List.length_cons, p2.2]⟩
    | exc x S2 => exact fun h => h
    | bad => exact fun h => h
theorem k_clo {i : Nat} {x : Str} (hv : PE X (.Name x p) (tVar i)) (hr : PA X es (rdA X g cs Wx H₀ n fs)) (hs : starEach (.Name x p :: es) X.env = (false, eval (.Name x p) X.env) :: starEach es X.env := by rfl) : PA X (.Name x p :: es) (rdA X g cs Wx H₀ (n + 1) (kClo i fs)) :=
  (pa_cons hv hr hs).imp fun σ H Q ⟨W, ρ, S, st, en, h⟩ => by
    have h : (match (match ρ[i]? with
      | some (.cl G) => (fs ρ S).bind fun xs S2 => .ok (.cl G :: xs) S2
      | some (.fz d) => (fs ρ S).bind fun xs S2 => .ok (.fz d :: xs) S2
      | _ => .bad : Res (List Slot)) with
      | .ok ss S' => ∀ vs W' H', Ext W H W' H' → g.Sta W' H' S' → PreA X g cs H₀ ρ σ W' H' ss vs ∧ ss.length = n + 1 → Q vs H'
      | .exc e S' => ∀ W' H' cls x, Ext W H W' H' → g.Sta W' H' S' → ExcOk g W' H' e cls x → Wx cls x σ H'
      | .bad => False) := h
    cases e : ρ[i]? with
    | none => rw [e] at h; exact h.elim
    | some sl =>
      rw [e] at h
      obtain ⟨ov, h1, h2⟩ := en.get e
      cases sl with
      | fz d =>
        obtain ⟨v, rfl, h3⟩ := h2
        refine ⟨v, h1, W, ρ, S, st, en, ?_⟩
        revert h
        cases fs ρ S with
        | ok ss S2 => exact fun h1 vs W2 H2 e2 s2 p2 => h1 _ W2 H2 e2 s2 ⟨⟨v, vs, rfl, Rep.ext e2 st h3, p2.1⟩, by rw [List.length_cons, p2.2]⟩
        | exc x S2 => exact fun h => h
        | bad => exact fun h => h
      | cl G =>
        obtain ⟨v, rfl, h3⟩ := h2
        refine ⟨v, h1, W, ρ, S, st, en, ?_⟩
        revert h
        cases fs ρ S with
        | ok ss S2 => exact fun h1 vs W2 H2 e2 s2 p2 => h1 _ W2 H2 e2 s2 ⟨⟨v, vs, rfl, fun _ W3 H3 S3 fu st3 _ L off _ => h3.fu (((e2.fu st).trans fu).trans ⟨(sim_trk off).lo st3, fun a o q z => by
            rcases trk_cases (L := L) (H := H3) (a := a) with ⟨o', b1, b2⟩ | ⟨b1, b2⟩
            · rw [off a o' b1] at q; cases q
            · rw [b2]; exact q⟩), p2.1⟩, by rw [List.length_cons, p2.2]⟩
        | exc x S2 => exact fun h => h
        | bad => exact fun h => h
      | _ => exact h.elim
/-! ### a lambda as an argument -/
def tLam (X : Cx) (T : List NTab) (params : Arguments) (body : Expr) (scope : Scope) : TE := fun σ H Q => TabsN T H ∧ (X.Ok → ∀ (f c' : Addr) (pm ctv : Value) (H1 : Hp), ExtN H H1 → (∀ b, H1 b = none → H b = none) → TabsN T H1 → H f = none →
  H1 f = some (Pn (lamO (X.env.qual ++ "<lambda>") params body scope (cloFrom X.env.cells scope.names []) pm c' ctv)) → H1 c' = some (CodeO c' (X.env.qual ++ "<lambda>")) → Q (.ref f) H1)
theorem pe_lam {T : List NTab} {nm : Nat → Nat → Str} {c P : Addr} {params : Arguments} {body : Expr} {scope : Scope} (TB : TabB X.base X.mg c P) (hcode : X.env.code = .ref c) (hm : (P, nm) ∈ T) (hn : nm pos.line pos.col = X.env.qual ++ "<lambda>") (hu : ∀ p ∈ T, p.1 = P → p.2 = nm)
    (hdef : defaultsOf params X.env = ([], [])) (hfree : ∀ y ∈ scope.names, y.2 = .free → X.env.scope.names.lookup y.1 = some .cell ∨ X.env.scope.names.lookup y.1 = some .free) : PE X (.Lambda params body scope pos) (tLam X T params body scope) := by
  refine ⟨fun pins s σ H Q I h => ?_⟩
  have hfr : ∀ y ∈ scope.names, y.2 = .free → ∃ c, X.env.cells.lookup y.1 = some c := fun y hy e => (hfree y hy e).elim (fun z => I.ok.has _ (.inl z)) fun z => I.ok.has _ (.inr z)
  exact lam_makeP I TB hcode hm hn hu h.1 hdef hfr fun f c' pm ctv H1 s' I1 e1 l1 T1 f0 f1 c1 => ⟨.ref f, H1, I1, rfl, h.2 I.ok f c' pm ctv H1 e1 l1 T1 f0 f1 c1⟩
theorem k_lam {nm : Nat → Nat → Str} {c P : Addr} {params : Arguments} {body : Expr} {scope : Scope} {N ps fr : List Str} {js : List Nat} {m k : Nat} {eb : Ev} (TB : TabB X.base X.mg c P) (hcode : X.env.code = .ref c) (hm : (P, nm) ∈ g.T) (hn : nm pos.line pos.col = X.env.qual ++ "<lambda>") (hu : ∀ p ∈ g.T, p.1 = P → p.2 = nm)
    (hdef : defaultsOf params X.env = ([], [])) (hfree : ∀ y ∈ scope.names, y.2 = .free → X.env.scope.names.lookup y.1 = some .cell ∨ X.env.scope.names.lookup y.1 = some .free)
    (Sc : NScope N ps fr scope) (hk : g.k = k + 1) (hb : ∀ (cl : List (Str × Addr)) (pm ctv : Value) (c' : Addr) (us : List Value), us.length = ps.length → bindArgs (PySem.W.kla_fn "<lambda>" (X.env.qual ++ "<lambda>") params body scope cl pm (.ref c') ctv) ⟨us, []⟩ = pure (ps.zip us))
    (hN : N.length = ps.length + fr.length + m) (hcs : ∀ y ∈ fr, y ∈ cs) (hjs : js.map (fun j => X.N[j]?) = fr.map some)
    (hbody : ∀ (cl : List (Str × Addr)) (c' f : Addr) (A : Around) (outer : List PySem.Env) (s : Shared) (H : Hp) (E : XK), Room k (A.deeper (envF (lamF (X.env.qual ++ "<lambda>") params scope cl c') f s.heap.objs.size)) →
      PE (ncx (L2.CX g.P g.w) g.P g.w g.K g.mg g.base N (lamF (X.env.qual ++ "<lambda>") params scope cl c') f A outer s H E) body (rd g (fun c d _ H' => E c d H') H (rlR g) eb))
    (hr : PA X es (rdA X g cs Wx H₀ n fs)) (hs : starEach (.Lambda params body scope pos :: es) X.env = (false, eval (.Lambda params body scope pos) X.env) :: starEach es X.env := by rfl) :
    PA X (.Lambda params body scope pos :: es) (rdA X g cs Wx H₀ (n + 1) (kLam (lamG ps.length js m eb) fs)) :=
  (pa_cons (pe_lam TB hcode hm hn hu hdef hfree) hr hs).imp fun σ H Q ⟨W, ρ, S, st, en, h⟩ => by
    refine ⟨st.tabs, fun ok f c' pm ctv H1 e1 l1 T1 f0 f1 c1 => ?_⟩
    have ex : Ext W H W H1 := ⟨fun _ h => h, ⟨[], by simp⟩, fun a o h _ ht => e1 a o h fun ps z => by subst z; exact ht, fun _ h => .inl h, fun _ h => .inl h, l1⟩
    have nfz : ∀ {a o}, H a = some o → isFz o ∨ isCl o → H1 a = some o := fun {a o} h z => e1 a o h fun ps q => by subst q; rcases z with z | z <;> exact z
    have s1 : g.Sta W H1 S := ⟨fun a r => by
        obtain ⟨o, ho, hz⟩ := st.fz a r
        exact ⟨o, nfz ho (.inl hz), hz⟩, st.nd, st.mR, st.len, fun l c a h1 h2 => by
        have hc := st.cells l c a h1 h2
        obtain ⟨o, ho, hz⟩ := hc.is
        exact hc.lo (ex.lo st) (fun o' q => nfz q (.inr (by rw [ho] at q; cases q; exact hz))) fun b q => e1 b _ q (fun ps z => by cases z), T1⟩
    have n1 := en.ext ex st
    refine ⟨W, ρ, S, s1, n1, ?_⟩
    have h : (match (fs ρ S).bind fun xs S2 => .ok (.cl (lamG ps.length js m eb ρ) :: xs) S2 with
      | .ok ss S' => ∀ vs W' H', Ext W H W' H' → g.Sta W' H' S' → PreA X g cs H₀ ρ σ W' H' ss vs ∧ ss.length = n + 1 → Q vs H'
      | .exc e S' => ∀ W' H' cls x, Ext W H W' H' → g.Sta W' H' S' → ExcOk g W' H' e cls x → Wx cls x σ H'
      | .bad => False) := h
    revert h
    cases fs ρ S with
    | ok ss S2 =>
      refine fun h vs W2 H2 e2 s2 p2 => h _ W2 H2 (ex.trans e2) s2 ⟨⟨.ref f, vs, rfl, fun _ W3 H3 S3 fu st3 en3 L off lx => ?_, p2.1⟩, by rw [List.length_cons, p2.2]⟩
      have fu' : Fu W H1 W3 H3 := (e2.fu s1).trans fu
      have hfr : ∀ y ∈ scope.names, y.2 = .free → ∃ c, X.env.cells.lookup y.1 = some c := fun y hy e => (hfree y hy e).elim (fun z => ok.has _ (.inl z)) fun z => ok.has _ (.inr z)
      have hjl : js.length = fr.length := by have := congrArg List.length hjs; simpa using this
      refine clo_of Sc hk (hb _ pm ctv c') hN (fun A outer s H E hr => hbody _ c' f A outer s H E hr) st3 en3 off ⟨by rw [List.length_map, hjl], fun y c e => ?_, fun x y c a1 a2 => ok.inj x y c (clo_cm hfr a1) (clo_cm hfr a2), fun i y e => ?_⟩ (fu'.xt f _ f1 trivial) (fu'.xt c' _ c1 trivial)
      · have hy : y ∈ fr := by
          rcases cloFrom_mem (PySem.mem_of_lookup e) with z | ⟨z, _⟩
          · cases z
          · exact Sc.free _ z rfl
        obtain ⟨c2, o, ov, a1, a2, a3, _⟩ := lx y (hcs y hy)
        rw [clo_cm hfr e] at a1
        cases a1
        exact ⟨o, ov, a2, a3⟩
      · have hy : y ∈ fr := List.mem_of_getElem? e
        obtain ⟨c2, o, ov, a1, a2, a3, a4⟩ := lx y (hcs y hy)
        refine ⟨c2, o, ov, clo_has hfr (PySem.mem_of_lookup (Sc.frk y hy)) a1, a2, a3, fun v hv => ?_⟩
        have e2 : (js.map fun j => X.N[j]?)[i]? = some (some y) := by rw [hjs, List.getElem?_map, e]; rfl
        rw [List.getElem?_map] at e2 hv
        cases ej : js[i]? with
        | none => rw [ej] at e2; cases e2
        | some j =>
          rw [ej] at e2 hv
          have hj : X.N[j]? = some y := Option.some.inj (show some (X.N[j]?) = some (some y) from e2)
          exact a4 j v hj (slotAt_some (Option.some.inj (show some (slotAt σ j) = some (some v) from hv)))
    | exc x S2 => exact fun h W2 H2 cls y e2 => h W2 H2 cls y (ex.trans e2)
    | bad => exact fun h => h
end
end DL

set_option Elab.async false
set_option linter.all false
set_option maxRecDepth 100000
set_option maxHeartbeats 2000000
/-! DL, part T: the text's defs, called in each way; instances. -/
namespace DL
open PySem PySem.Spec PyProof.Rows L2 NdefX LamX
/-! ### defs -/
def permV {α : Type} (ord : List Nat) (l : List α) : List α := ord.filterMap fun i => l[i]?
/-- a shape of keywords: so many arguments ahead, the keywords' names, where each parameter's value stands -/
abbrev Shp := Nat × List Str × List Nat
/-- the def at f does M -/
structure DFn (P : Program) (w : World) (K : PySem.W.Frag) (mg : Str → Option Value) (base : Heap) (g : Gb) (k : Nat) (f : Addr) (n : Nat) (sh : List Shp) (M : List Slot → Sto → Res D) : Prop where
  ex : ∃ (fd : FuncData) (ps : List Str), FnOk P w K mg base (L2.CX P w) k f fd ps (spF g n M) ∧ PySem.W.keepIn K (.ref f) = true ∧ Binds K fd ps [] ∧ ∀ t ∈ sh, KBn K fd ps t.1 t.2.1 (fun us ws => permV t.2.2 (us ++ ws)) (fun us ws => permV t.2.2 (us ++ ws))
theorem permV_rel {ord : List Nat} {vs zs : List V} {us ws : List Value} (h1 : Vals vs us) (h2 : Vals zs ws) : Vals (permV ord (vs ++ zs)) (permV ord (us ++ ws)) := by
  have h := Vals.append h1 h2
  generalize vs ++ zs = as at h
  generalize us ++ ws = bs at h
  unfold permV
  induction ord with
  | nil => exact .nil
  | cons i ord ih =>
    cases e : as[i]? with
    | none =>
      have e2 : bs[i]? = none := by
        rw [List.getElem?_eq_none_iff] at e ⊢
        rw [← h.length]; exact e
      rw [List.filterMap_cons, List.filterMap_cons, e, e2]
      exact ih
    | some v =>
      obtain ⟨u, hu, r⟩ := h.get e
      rw [List.filterMap_cons, List.filterMap_cons, e, hu]
      exact .cons r ih
/-- from the body; qual: the qualified name -/
theorem dfn_of {P : Program} {w : World} {K : PySem.W.Frag} {mg : Str → Option Value} {base : Heap} {g : Gb} {x qual : Str} {params : Arguments} {body : List Stmt} {scope : Scope} {f : Addr} {fd : FuncData} {N ps : List Str} {k n m : Nat} {b : Sv} {sh : List Shp}
    (F : FunD K x qual params body scope [] [] f fd) (Sc : FnScope N ps scope) (hn : ps.length = n) (hm : N.length - n = m)
    (hb : ∀ (kV doc pm : Value) (an : Option Addr) (cdv ct : Value) (us : List Value), us.length = ps.length → bindArgs (PySem.W.fnOf x qual params body scope .none kV doc pm an cdv ct) ⟨us, []⟩ = pure (ps.zip us))
    (hsh : ∀ t ∈ sh, ∀ (kV doc pm : Value) (an : Option Addr) (cdv ct : Value) (us ws : List Value), us.length = t.1 → ws.length = t.2.1.length → bindArgs (PySem.W.fnOf x qual params body scope .none kV doc pm an cdv ct) ⟨us, t.2.1.zip ws⟩ = pure (ps.zip (permV t.2.2 (us ++ ws))))
    (hbody : ∀ (A : Around) (outer : List PySem.Env) (s : Shared) (H : Hp) (E : XK) (W : Wo), Room k (A.deeper (envOfC qual scope s.heap.objs.size f fd.code)) →
      PSs (cxOf (L2.CX P w) P w K mg base N qual scope f fd.code A outer s H E) body (sd g (fun cls d _ H' => E cls d H') W H b)) :
    DFn P w K mg base g (k + 1) f n sh (fnM m b) := by
  have bA : ∀ (s : Shared) (us : List Value), us.length = ps.length → BindsTo s fd ⟨us, []⟩ (ps.zip us) := F.bindsA hb
  refine ⟨fd, ps, ?_, F.kp, fun s us _ hl => by rw [List.append_nil] at hl ⊢; exact bA s us hl, fun t ht => ⟨fun s us ws KX h1 h2 => ?_, fun h1 h2 => permV_rel h1 h2⟩⟩
  · obtain ⟨oc, od, dV, kV, doc, pm, an, cdv, ct, osl, rfl, lk, hcd, _, _⟩ := F.ex
    refine fn_of lk hcd Sc (fun vs H Q E ⟨W, S, ss, st, ha, hl, _⟩ => by rw [ha.len, hl, hn]) fun A outer s H vs Q E hr ⟨W, S, ss, st, ha, hl, h⟩ => ⟨_, hbody A outer s H E W hr, W, ss ++ List.replicate m .un, S, st, ?_, Ext.refl, ?_⟩
    · have : L2.start N vs = vs.map some ++ List.replicate m none := by
        unfold L2.start
        rw [ha.len, hl, hm]
      rw [this]
      exact ha.env H
    · revert h
      show (match (b (ss ++ List.replicate m .un) S).bind fun f S1 => opt (fin f) S1 with
        | .ok d S' => _
        | .exc e S' => _
        | .bad => False) → _
      cases b (ss ++ List.replicate m .un) S with
      | ok fl S1 =>
        cases fl with
        | nx ρ => exact fun h σ' W' H' s' n' e' _ => h .non W' H' e' s' (by simp only [Rep])
        | rt d => exact fun h v W' H' s' e' r' => h v W' H' e' s' r'
        | bk ρ => exact fun h => h.elim
        | ct ρ => exact fun h => h.elim
      | exc x S1 => exact fun h σ' W' H' cls y s' e' p' => h W' H' cls y e' s' p'
      | bad => exact fun h => h.elim
  · obtain ⟨oc, od, dV, kV, doc, pm, an, cdv, ct, osl, rfl, lk, hcd, hD, hK⟩ := F.ex
    rcases hD with ⟨_, rfl⟩ | ⟨e, _⟩
    · exact .of_eq (hsh t ht kV doc pm an cdv ct us ws h1 h2)
    · exact absurd rfl e
section
variable {X : Cx} {g : Gb} {Wx : WX} {H₀ : Hp} {k j n n1 n2 : Nat} {f C : Addr} {sh : List Shp} {M : List Slot → Sto → Res D} {x m : Str} {p pos apos kpos : Pos} {e o : Expr} {es : List Expr} {kws : List Keyword} {fs fk : Evs} {fa : Ea} {fo : Ev} {cs : List Str} {nm : Option Str}
/-! ### f(e, ..) -/
theorem c_call (tk : Takes X Wx) (F : DFn X.prog X.w X.K X.mg X.base g k f n sh M) (hr : Room j X.A) (hk : k ≤ j) (hg : Gl X x) (hm : X.mg x = some (.ref f))
    (ha : PA X (e :: es) (rd g Wx H₀ (rlN g n) fs)) (hdb : (x == ("__debug__" : Str)) = false := by decide) (he : starEach (e :: es) X.env = (false, eval e X.env) :: starEach es X.env := by rfl) (hpl : (backTo pos (starEach es X.env)).any (·.1) = false := by rfl) :
    PE X (.Call (.Name x p) (e :: es) [] pos) (rd g Wx H₀ (rlR g) (eCall M fs)) := by
  obtain ⟨fd, ps, F1, hkp, hb, _⟩ := F.ex
  exact d_call tk F1 (hr.mono hk) hg hm hkp hb ha hdb he hpl
/-- what a call's promise gives -/
theorem spF_of {W : Wo} {H : Hp} {S : Sto} {vs : List V} {ss : List Slot} {Q : VK} {E : XK} (st : g.Sta W H S) (ha : ArgsOk g W H ss vs) (hl : ss.length = n) (h : match M ss S with
    | .ok d S' => ∀ v W' H', Ext W H W' H' → g.Sta W' H' S' → g.Rep W' H' d v → Q v H'
    | .exc e S' => ∀ W' H' cls x, Ext W H W' H' → g.Sta W' H' S' → ExcOk g W' H' e cls x → E cls x H'
    | .bad => False) : spF g n M vs H Q E := ⟨W, S, ss, st, ha, hl, h⟩
theorem rdp_call {W : Wo} {H : Hp} {S : Sto} {σ : L2.St} {vs : List V} {ss : List Slot} {Q : VK} (st : g.Sta W H S) (ha : ArgsOk g W H ss vs) (hl : ss.length = n) (h : rdp g Wx (rlR g) σ W H (M ss S) Q) : spF g n M vs H Q (WE Wx σ) := by
  refine spF_of st ha hl ?_
  revert h
  cases M ss S with
  | ok d S' => exact fun h => h
  | exc x S' => exact fun h => h
  | bad => exact fun h => h
/-- f() -/
theorem c_call0 (tk : Takes X Wx) (F : DFn X.prog X.w X.K X.mg X.base g k f 0 sh M) (hr : Room j X.A) (hk : k ≤ j) (hg : Gl X x) (hm : X.mg x = some (.ref f)) (hdb : (x == ("__debug__" : Str)) = false := by decide) :
    PE X (.Call (.Name x p) [] [] pos) (rd g Wx H₀ (rlR g) (eCall M eNil)) := by
  obtain ⟨fd, ps, F1, hkp, hb, _⟩ := F.ex
  refine ⟨fun pins s σ H Q I ⟨W, ρ, S, st, en, h⟩ => ?_⟩
  have h : rdp g Wx (rlR g) σ W H (M [] S) Q := h
  refine wpAny_Call_Name_kw (ld_glob I hg hm ?_ hdb)
  exact PySem.W.callWith_K0 I.kIn hkp (run_fnS (us := []) (vs := []) F1 (hr.mono hk) hb (passAt tk σ) I .nil (rdp_call (ss := []) st rfl rfl h))
/-! ### keywords -/
theorem k_kw0 : PK X [] (rd g Wx H₀ (rlN g 0) eNil) := ⟨fun pos pins s σ H Q I ⟨W, ρ, S, st, en, h⟩ => pk_nil.run pos pins s σ H Q I (h [] W H Ext.refl st ⟨by simp only [Reps], rfl⟩)⟩
theorem k_kw {a : Expr} {fa : Ev} {fs : Evs} (ha : PE X a (rd g Wx H₀ (rlR g) fa)) (hr : PK X kws (rd g Wx H₀ (rlN g n) fs)) : PK X (⟨nm, a, kpos⟩ :: kws) (rd g Wx H₀ (rlN g (n + 1)) (eCons fa fs)) :=
  ⟨fun pos pins s σ H Q I ⟨W, ρ, S, st, en, h⟩ => (pk_cons ha hr).run pos pins s σ H Q I (step monoN st en h fun x W1 H1 S1 d e1 s1 n1 p1 h1 => step monoN s1 n1 h1 fun xs W2 H2 S2 ds e2 s2 n2 p2 h2 =>
    h2 _ W2 H2 Ext.refl s2 ⟨by simp only [Reps]; exact ⟨x, xs, rfl, Rep.ext e2 s1 p1, p2.1⟩, by rw [List.length_cons, p2.2]⟩)⟩
/-- arguments ahead, then keywords -/
def eCallK (M : List Slot → Sto → Res D) (ord : List Nat) (as ks : Evs) : Ev := fun ρ S => (as ρ S).bind fun ds S1 => (ks ρ S1).bind fun es S2 => M ((permV ord (ds ++ es)).map .fz) S2
theorem Reps.perm {W : Wo} {H : Hp} {ds : List D} {vs : List V} (h : g.Reps W H ds vs) : ∀ ord : List Nat, g.Reps W H (permV ord ds) (permV ord vs)
  | [] => by simp only [permV, List.filterMap_nil, Reps]
  | i :: ord => by
    have ih := Reps.perm h ord
    unfold permV at ih ⊢
    cases e : ds[i]? with
    | none =>
      have e2 : vs[i]? = none := by
        rw [List.getElem?_eq_none_iff] at e ⊢
        rw [h.len]; exact e
      rw [List.filterMap_cons, List.filterMap_cons, e, e2]
      exact ih
    | some d =>
      obtain ⟨v, hv, r⟩ := h.get e
      rw [List.filterMap_cons, List.filterMap_cons, e, hv]
      simp only [Reps]
      exact ⟨v, _, rfl, r, ih⟩
theorem run_kw {pins : List (Addr × Obj)} {s : Shared} {σ : L2.St} {H : Hp} {Q : VK} {us ws : List Value} {vs zs : List V} {fd : FuncData} {ps ks : List Str} {ord : List Nat} {E : L2.St → XK} {sp : Sp} (F1 : FnOk X.prog X.w X.K X.mg X.base (L2.CX X.prog X.w) k f fd ps sp) (hr : Room k X.A)
    (hb : KBn X.K fd ps n1 ks (fun us ws => permV ord (us ++ ws)) (fun us ws => permV ord (us ++ ws))) (hx : PassesAt (L2.CX X.prog X.w) X σ (E σ)) (I : Inv X pins σ H s) (r : Vals vs us) (rz : Vals zs ws) (l1 : vs.length = n1) (l2 : zs.length = ks.length) (h : sp (permV ord (vs ++ zs)) H Q (E σ)) :
    wpAny (model X.prog X.w) X.A (call (.ref f) us (ks.zip ws)) (EP X pins σ Q) X.xe s := by
  have r2 := hb.rel r rz
  refine wpAny_call (codeAny_mono (F1.run X.A X.stack s H ⟨us, ks.zip ws⟩ _ _ Q (E σ) hr I.env0 (hb.to s us ws I.kIn (r.length.symm.trans l1) (rz.length.symm.trans l2)) r2 h) fun r s' hq => ?_)
  cases r with
  | error e => exact hx pins H s e s' I hq
  | ok fl =>
    cases fl with
    | ret u => exact I.after hq
    | next => exact False.elim hq
    | brk => exact False.elim hq
    | cont => exact False.elim hq
/-- f(k = v, ..) -/
theorem c_callK0 {ks : List Str} {ord : List Nat} (tk : Takes X Wx) (F : DFn X.prog X.w X.K X.mg X.base g k f n sh M) (hsh : (0, ks, ord) ∈ sh) (hr : Room j X.A) (hk : k ≤ j) (hg : Gl X x) (hm : X.mg x = some (.ref f)) (hlen : ks.length = n2) (hord : ord.length = n) (hlt : ord.all (fun i => decide (i < n2)) = true)
    (hkw : PK X kws (rd g Wx H₀ (rlN g n2) fk)) (hall : (backToKw pos (keywordEach kws X.env)).all (·.1.isSome) = true := by rfl) (hks : (backToKw pos (keywordEach kws X.env)).filterMap (·.1) = ks := by rfl) (hdb : (x == ("__debug__" : Str)) = false := by decide)
    (hpl : ((backTo pos (starEach [] X.env)).any (·.1) || (backToKw pos (keywordEach kws X.env)).any (·.1.isNone)) = false := by rfl) :
    PE X (.Call (.Name x p) [] kws pos) (rd g Wx H₀ (rlR g) (eCallK M ord eNil fk)) := by
  obtain ⟨fd, ps, F1, hkp, hb, hkb⟩ := F.ex
  refine ⟨fun pins s σ H Q I ⟨W, ρ, S, st, en, h⟩ => ?_⟩
  have h : rdp g Wx (rlR g) σ W H ((fk ρ S).bind fun es S2 => M ((permV ord ([] ++ es)).map .fz) S2) Q := h
  refine wpAny_Call_Name_kw (ld_glob I hg hm ?_ hdb)
  refine PySem.W.callWith_KW0 (h₀ := X.base) I.ok.mod.kin hkp hall ?_ hpl
  refine thn (hkw.run pos pins s σ H (fun zs H2 => zs.length = n2 ∧ spF g n M (permV ord ([] ++ zs)) H2 Q (WE Wx σ)) I ?_) fun ws s2 ⟨zs, H2, I2, rz, q1, q2⟩ => ⟨I2.kIn, ?_⟩
  · refine step monoR st en h fun xs W1 H1 S1 ds e1 s1 n1 p1 h1 => ⟨by rw [p1.1.len, p1.2], rdp_call s1 (.of ((show g.Reps W1 H1 ([] ++ ds) ([] ++ xs) from p1.1).perm ord)) ?_ h1⟩
    rw [List.length_map, List.nil_append]
    have hp : ∀ (o : List Nat), o.all (fun i => decide (i < n2)) = true → (permV o ds).length = o.length := by
      intro o
      induction o with
      | nil => intro _; rfl
      | cons i o ih =>
        intro hh
        simp only [List.all_cons, Bool.and_eq_true, decide_eq_true_eq] at hh
        have hi : i < ds.length := by rw [p1.2]; exact hh.1
        unfold permV at ih ⊢
        rw [List.filterMap_cons, List.getElem?_eq_getElem hi]
        simp [ih hh.2]
    rw [hp ord hlt, hord]
  · rw [hks]
    exact run_kw (us := []) (vs := []) F1 (hr.mono hk) (hkb _ hsh) (passAt tk σ) I2 .nil rz rfl (by rw [q1, hlen]) q2
end
end DL

set_option Elab.async false
set_option linter.all false
set_option maxRecDepth 100000
set_option maxHeartbeats 2000000
/-! DL, part U: calls with lambdas, of lambdas; instances, attributes, methods. -/
namespace DL
open PySem PySem.Spec PyProof.Rows L2 NdefX LamX
section
variable {X : Cx} {g : Gb} {Wx : WX} {W₀ : Wo} {H₀ : Hp} {k j n n1 n2 i : Nat} {f C : Addr} {sh : List Shp} {M : List Slot → Sto → Res D} {x m c : Str} {p pos apos kpos pos' : Pos} {e o value : Expr} {es : List Expr} {kws : List Keyword} {fs fk : Evs} {fa : Ea} {fo fv : Ev} {cs : List Str} {nm : Option Str}
/-! ### f(.., lambda, ..) -/
def eCallA (M : List Slot → Sto → Res D) (fa : Ea) : Ev := fun ρ S => (fa ρ S).bind fun ss S1 => M ss S1
theorem PreA.args {ρ : DL.Env} {σ : L2.St} {W : Wo} {H : Hp} {S : Sto} {L : PinL} (ok : X.Ok) (st : g.Sta W H S) (en : EnvOk g W H H₀ ρ σ) (off : Off L H) (lx : LX X σ cs L) : ∀ {ss : List Slot} {vs : List V}, PreA X g cs H₀ ρ σ W H ss vs → ArgsOk g W (trk L H) ss vs
  | [], _, h => h
  | .fz d :: ss, _, ⟨v, r, h1, h2, h3⟩ => ⟨v, r, h1, Rep.lo ((sim_trk off).lo st) h2, PreA.args ok st en off lx h3⟩
  | .cl G :: ss, _, ⟨v, r, h1, h2, h3⟩ => ⟨v, r, h1, h2 ok W H S ⟨Lo.refl, fun _ _ h _ => h⟩ st en L off lx, PreA.args ok st en off lx h3⟩
theorem c_callP (tk : Takes X Wx) (F : DFn X.prog X.w X.K X.mg X.base g k f n sh M) (hr : Room j X.A) (hk : k ≤ j) (hg : Gl X x) (hm : X.mg x = some (.ref f)) (hfn : ∀ y ∈ cs, X.fn y = true) (hcell : ∀ y ∈ cs, X.env.scope.names.lookup y = some .cell)
    (ha : PA X (e :: es) (rdA X g cs Wx H₀ n fa)) (hdb : (x == ("__debug__" : Str)) = false := by decide) (he : starEach (e :: es) X.env = (false, eval e X.env) :: starEach es X.env := by rfl) (hpl : (backTo pos (starEach es X.env)).any (·.1) = false := by rfl) :
    PE X (.Call (.Name x p) (e :: es) [] pos) (rd g Wx H₀ (rlR g) (eCallA M fa)) := by
  obtain ⟨fd, ps, F1, hkp, hb, _⟩ := F.ex
  refine ⟨fun pins s σ H Q I ⟨W, ρ, S, st, en, h⟩ => ?_⟩
  refine wpAny_Call_Name_kw (ld_glob I hg hm ?_ hdb)
  refine PySem.W.callWith_K (h₀ := X.base) I.ok.mod.kin hkp (thn (ha.run pos pins s σ H (fun vs H1 => ∃ W1 S1 ss, g.Sta W1 H1 S1 ∧ EnvOk g W1 H1 H₀ ρ σ ∧ PreA X g cs H₀ ρ σ W1 H1 ss vs ∧ ss.length = n ∧ rdp g Wx (rlR g) σ W1 H1 (M ss S1) Q) I ?_) fun us s1 ⟨vs, H1, I1, r, q⟩ => ⟨I1.kIn, ?_⟩) he hpl
  · refine ⟨W, ρ, S, st, en, ?_⟩
    have h : rdp g Wx (rlR g) σ W H ((fa ρ S).bind fun ss S1 => M ss S1) Q := h
    revert h
    cases fa ρ S with
    | ok ss S1 => exact fun h vs W1 H1 e1 s1 p1 => ⟨W1, S1, ss, s1, en.ext e1 st, p1.1, p1.2, rdp.mv monoR e1 (show rdp g Wx (rlR g) σ W H (M ss S1) Q from h)⟩
    | exc y S1 => exact fun h => h
    | bad => exact fun h => h
  · obtain ⟨W1, S1, ss, s1', n1, pa, hl, h⟩ := q
    obtain ⟨po, lx⟩ := pins_ok I1 hfn hcell
    generalize pinsOf X.env.cells s1.heap cs = L at po lx
    have ha := PreA.args I1.ok s1' n1 po.off lx pa
    have hus : us.length = ps.length := by
      have := F1.len vs (trk L H1) (fun _ _ => True) (fun _ _ _ => True) (spF_of (s1'.sim (sim_trk po.off)) ha hl (by
        revert h
        cases M ss S1 with
        | ok d S' => exact fun _ _ _ _ _ _ _ => trivial
        | exc y S' => exact fun _ _ _ _ _ _ _ _ => trivial
        | bad => exact fun h => h))
      rw [← this, r.length]
    have b := hb s1 us I1.kIn (by rw [List.append_nil]; exact hus)
    rw [List.append_nil] at b
    refine wpAny_call (codeAny_mono (F1.run X.A X.stack s1 (trk L H1) ⟨us, []⟩ us vs (fun v H' => On L H' → Q v (utr L H')) (fun c d H' => On L H' → WE Wx σ c d (utr L H')) (hr.mono hk) (env0_trk I1.env0 po) b r (spF_of (s1'.sim (sim_trk po.off)) ha hl ?_)) fun r s' hq => ?_)
    · revert h
      cases M ss S1 with
      | ok d S' => exact fun h v W' H' e' s' p' on => h v W' (utr L H') (ext_utr e' po.off) (s'.sim (sim_utr on)) (Rep.lo ((sim_utr on).lo s') p')
      | exc y S' => exact fun h W' H' cls d e' s' p' on => h W' (utr L H') cls d (ext_utr e' po.off) (s'.sim (sim_utr on)) (p'.sim (sim_utr on) s')
      | bad => exact fun h => h
    · cases r with
      | error e => exact passAt tk σ pins H1 s1 e s' I1 (cx_utr po hq fun c d H' on q => q on)
      | ok fl =>
        cases fl with
        | ret u => exact I1.after (ce_utr po hq fun v H' on q => q on)
        | next => exact False.elim hq
        | brk => exact False.elim hq
        | cont => exact False.elim hq
/-! ### what was handed in, called -/
abbrev Tbl := List (Str × (List Slot → Sto → Res D))
def eClo (i : Nat) (tab : Tbl) (fs : Evs) : Ev := fun ρ S => match ρ[i]? with
  | some (.cl G) => (fs ρ S).bind fun ds S1 => G ds S1
  | some (.fz (.fn x)) => (match tab.lookup x with
    | some M => (fs ρ S).bind fun ds S1 => M (ds.map .fz) S1
    | none => .bad)
  | _ => .bad
/-- each name of the table is a def that does that -/
def TblOk (X : Cx) (g : Gb) (k n : Nat) (tab : Tbl) : Prop := ∀ x M, tab.lookup x = some M → ∃ f sh, X.mg x = some (.ref f) ∧ DFn X.prog X.w X.K X.mg X.base g k f n sh M
theorem TblOk.nil : TblOk X g k n [] := fun x M h => by cases h
theorem TblOk.cons {y : Str} {M : List Slot → Sto → Res D} {tab : Tbl} (hm : X.mg y = some (.ref f)) (F : DFn X.prog X.w X.K X.mg X.base g k f n sh M) (t : TblOk X g k n tab) : TblOk X g k n ((y, M) :: tab) := fun x N h => by
  have h : (match x == y with | true => some M | false => tab.lookup x) = some N := h
  cases e : x == y with
  | true =>
    rw [e] at h
    cases h
    rw [beq_iff_eq.mp e]
    exact ⟨f, sh, hm, F⟩
  | false =>
    rw [e] at h
    exact t x N h
theorem c_clo {tab : Tbl} (tk : Takes X Wx) (hP : g.P = X.prog) (hw : g.w = X.w) (hK : g.K = X.K) (hmg : g.mg = X.mg) (hbase : g.base = X.base) (T : TblOk X g k n tab) (hr : Room j X.A) (hk : k ≤ j) (hkg : g.k ≤ j) (hN : X.N[i]? = some x) (hv : Vis X.env.scope x)
    (ha : PA X (e :: es) (rd g Wx H₀ (rlN g n) fs)) (hdb : (x == ("__debug__" : Str)) = false := by decide) (hcd : (x == ("__classdict__" : Str)) = false := by decide) (he : starEach (e :: es) X.env = (false, eval e X.env) :: starEach es X.env := by rfl) (hpl : (backTo pos (starEach es X.env)).any (·.1) = false := by rfl) :
    PE X (.Call (.Name x p) (e :: es) [] pos) (rd g Wx H₀ (rlR g) (eClo i tab fs)) := by
  refine ⟨fun pins s σ H Q I ⟨W, ρ, S, st, en, h⟩ => ?_⟩
  have h : rdp g Wx (rlR g) σ W H (match ρ[i]? with
    | some (.cl G) => (fs ρ S).bind fun ds S1 => G ds S1
    | some (.fz (.fn x)) => (match tab.lookup x with
      | some M => (fs ρ S).bind fun ds S1 => M (ds.map .fz) S1
      | none => .bad)
    | _ => .bad) Q := h
  cases es' : ρ[i]? with
  | none => rw [es'] at h; exact h.elim
  | some sl =>
    rw [es'] at h
    obtain ⟨ov, h1, h2⟩ := en.get es'
    cases sl with
    | cl G =>
      obtain ⟨v, rfl, hc⟩ := h2
      obtain ⟨f, rfl, hc'⟩ := id hc
      refine wpAny_Call_Name_kw (thn ((pe_var (pos := p) hN hv hdb hcd).run pins s σ H (fun v H1 => v = .ref f ∧ H1 = H) I ⟨.ref f, h1, rfl, rfl⟩) fun u s1 ⟨v, H1, I1, r1, q1⟩ => ?_)
      obtain ⟨ev, eH⟩ := q1
      subst ev
      rw [eH] at I1
      obtain rfl : u = Value.ref f := r1
      have fa1 : PySem.W.FnAt f s1.heap := (hc' W H ⟨Lo.refl, fun _ _ h _ => h⟩).1 _ (by rw [hP, hw]; exact I1.hok)
      refine PySem.W.callWith_F (first := []) fa1 (thn (ha.run pos pins s1 σ H (fun vs H2 => ∃ W2 S2 ds, g.Sta W2 H2 S2 ∧ CloOk g W2 H2 G (.ref f) ∧ g.Reps W2 H2 ds vs ∧ rdp g Wx (rlR g) σ W2 H2 (G ds S2) Q) I1 ?_) fun us s2 ⟨vs, H2, I2, r, q⟩ => ?_) he hpl
      · exact step monoR st en h fun xs W2 H2 S2 ds e2 s2 n2 p2 h2 => ⟨W2, S2, ds, s2, hc.ext e2 st, p2.1, h2⟩
      · obtain ⟨W2, S2, ds, s2', c2, rs, h2⟩ := q
        obtain ⟨f2, ef, c2'⟩ := c2
        cases ef
        obtain ⟨fa2, run⟩ := c2' W2 H2 ⟨Lo.refl, fun _ _ h _ => h⟩
        refine ⟨fa2 _ (by rw [hP, hw]; exact I2.hok), ?_⟩
        show wpAny _ _ (call (.ref f) us) _ _ _
        have rc := run X.A X.stack s2 us vs Q (WE Wx σ) (hr.mono hkg) (by rw [hP, hw, hK, hmg, hbase]; exact I2.env0) r ⟨S2, ds, s2', rs, by
          revert h2
          cases G ds S2 with
          | ok d S' => exact fun h => h
          | exc y S' => exact fun h => h
          | bad => exact fun h => h⟩
        rw [hP, hw] at rc
        refine wpAny_call (codeAny_mono rc fun r s' hq => ?_)
        cases r with
        | error e => exact passAt tk σ pins H2 s2 e s' I2 hq
        | ok fl =>
          cases fl with
          | ret u => exact I2.after hq
          | next => exact False.elim hq
          | brk => exact False.elim hq
          | cont => exact False.elim hq
    | fz d =>
      cases d with
      | fn y =>
        obtain ⟨v, rfl, hc⟩ := h2
        simp only [Rep] at hc
        obtain ⟨a, rfl, ha'⟩ := hc
        have h : rdp g Wx (rlR g) σ W H (match tab.lookup y with
          | some M => (fs ρ S).bind fun ds S1 => M (ds.map .fz) S1
          | none => .bad) Q := h
        cases et : tab.lookup y with
        | none => rw [et] at h; exact h.elim
        | some M =>
          rw [et] at h
          obtain ⟨f2, sh2, hm, F⟩ := T y M et
          rw [hmg, hm] at ha'
          have ha2 : f2 = a := by cases ha'; rfl
          subst ha2
          obtain ⟨fd, ps, F1, hkp, hb, _⟩ := F.ex
          refine wpAny_Call_Name_kw (thn ((pe_var (pos := p) hN hv hdb hcd).run pins s σ H (fun v H1 => v = .ref f2 ∧ H1 = H) I ⟨.ref f2, h1, rfl, rfl⟩) fun u s1 ⟨v, H1, I1, r1, q1⟩ => ?_)
          obtain ⟨ev, eH⟩ := q1
          subst ev
          rw [eH] at I1
          obtain rfl : u = Value.ref f2 := r1
          refine PySem.W.callWith_K (h₀ := X.base) I1.ok.mod.kin hkp (thn (ha.run pos pins s1 σ H (fun vs H2 => spF g n M vs H2 Q (WE Wx σ)) I1 ?_) fun us s2 ⟨vs, H2, I2, r, q⟩ => ⟨I2.kIn, ?_⟩) he hpl
          · exact step monoR st en h fun xs W2 H2 S2 ds e2 s2 n2 p2 h2 => rdp_call s2 (.of p2.1) (by rw [List.length_map, p2.2]) h2
          · exact run_fnS F1 (hr.mono hk) hb (passAt tk σ) I2 r q
      | _ => exact h.elim
    | _ => exact h.elim
end
end DL

set_option Elab.async false
set_option linter.all false
set_option maxRecDepth 100000
set_option maxHeartbeats 2000000
/-! DL, part V: instances: attributes, methods, making; lists of the store, written. -/
namespace DL
open PySem PySem.Spec PyProof.Rows L2 NdefX LamX
/-- the attributes of an instance of c -/
def insF (c : Str) (S : Sto) : D → Option (List (Str × D))
  | .obj l => (match S[l]? with
    | some (.ins c' fs) => if c' = c then some fs else none
    | _ => none)
  | _ => none
def fldS (c n : Str) (S : Sto) (x : D) : Option D := (insF c S x).bind fun fs => fs.lookup n
def putA (n : Str) (y : D) : List (Str × D) → List (Str × D)
  | [] => [(n, y)]
  | (k, x) :: r => if k = n then (k, y) :: r else (k, x) :: putA n y r
def setF (c n : Str) (y : D) (S : Sto) : D → Option Sto
  | .obj l => (match S[l]? with
    | some (.ins c' fs) => if c' = c ∧ fs.length < 1000 then some (S.set l (.ins c (putA n y fs))) else none
    | _ => none)
  | _ => none
def eFld (c n : Str) (f : Ev) : Ev := e1 (fldS c n) f
/-- o.n = e -/
def sFld (c n : Str) (fo fv : Ev) : Sv := fun ρ S => (fv ρ S).bind fun y S1 => (fo ρ S1).bind fun x S2 => (opt (setF c n y S2 x) S2).bind fun S3 _ => .ok (.nx ρ) S3
def insM (c m : Str) (S : Sto) (x : D) : Option Unit := (insF c S x).bind fun fs => if (fs.lookup m).isNone = true then some () else none
def eMeth (c m : Str) (M : List Slot → Sto → Res D) (fo : Ev) (fs : Evs) : Ev := fun ρ S => (fo ρ S).bind fun x S1 => (opt (insM c m S1 x) S1).bind fun _ S1 => (fs ρ S1).bind fun ds S2 => M ((x :: ds).map .fz) S2
def eProp (c : Str) (M : List Slot → Sto → Res D) (fo : Ev) : Ev := fun ρ S => (fo ρ S).bind fun x S1 => (opt (insF c S1 x) S1).bind fun _ S1 => M [.fz x] S1
/-- C(..): a new thing, then __init__ -/
def mkR (c : Str) (M : List Slot → Sto → Res D) (ds : List D) (S : Sto) : Res D := (M ((.obj S.length :: ds).map .fz) (S ++ [.ins c []])).bind fun v S2 => match v with
  | .non => .ok (.obj S.length) S2
  | _ => .bad
def eMake (c : Str) (M : List Slot → Sto → Res D) (fs : Evs) : Ev := fun ρ S => (fs ρ S).bind fun ds S1 => mkR c M ds S1
def eMakeK (c : Str) (M : List Slot → Sto → Res D) (ord : List Nat) (fk : Evs) : Ev := fun ρ S => (fk ρ S).bind fun ds S1 => mkR c M (permV ord ds) S1
section
variable {g : Gb} {W : Wo} {H : Hp} {S : Sto}
theorem look_hit {α : Type} {n : Str} {d : α} {fs : List (Str × α)} : ((n, d) :: fs).lookup n = some d := by
  show (match n == n with | true => some d | false => fs.lookup n) = _
  rw [beq_self_eq_true]
theorem look_ne {α : Type} {n k : Str} {d : α} {fs : List (Str × α)} (h : n ≠ k) : ((k, d) :: fs).lookup n = fs.lookup n := by
  show (match n == k with | true => some d | false => fs.lookup n) = _
  rw [beq_eq_false_iff_ne.mpr h]
theorem RepFs.look {n : Str} : ∀ {fs : List (Str × D)} {fv : List (Str × V)}, RepFs g.K g.mg W H fs fv → (fs.lookup n = none ∧ fv.lookup n = none) ∨ ∃ d v, fs.lookup n = some d ∧ fv.lookup n = some v ∧ g.Rep W H d v
  | [], fv, h => by rw [show fv = [] from h]; exact .inl ⟨rfl, rfl⟩
  | (k, d) :: fs, fv, h => by
    obtain ⟨v, r, rfl, h1, h2⟩ := h
    by_cases hk : n = k
    · subst hk
      exact .inr ⟨d, v, look_hit, look_hit, h1⟩
    · rcases RepFs.look h2 with ⟨a1, a2⟩ | ⟨d', v', a1, a2, a3⟩
      · exact .inl ⟨by rw [look_ne hk]; exact a1, by rw [look_ne hk]; exact a2⟩
      · exact .inr ⟨d', v', by rw [look_ne hk]; exact a1, by rw [look_ne hk]; exact a2, a3⟩
theorem RepFs.len : ∀ {fs : List (Str × D)} {fv : List (Str × V)}, RepFs g.K g.mg W H fs fv → fv.length = fs.length
  | [], fv, h => by rw [show fv = [] from h]; rfl
  | (k, d) :: fs, fv, h => by
    obtain ⟨v, r, rfl, h1, h2⟩ := h
    rw [List.length_cons, List.length_cons, RepFs.len h2]
theorem RepFs.put {n : Str} {d : D} {v : V} (hd : g.Rep W H d v) : ∀ {fs : List (Str × D)} {fv : List (Str × V)}, RepFs g.K g.mg W H fs fv → RepFs g.K g.mg W H (putA n d fs) (putF n v fv)
  | [], fv, h => by rw [show fv = [] from h]; exact ⟨v, [], rfl, hd, rfl⟩
  | (k, d') :: fs, fv, h => by
    obtain ⟨v', r, rfl, h1, h2⟩ := h
    unfold putA
    show RepFs _ _ _ _ _ (if k = n then (k, v) :: r else (k, v') :: putF n v r)
    by_cases hk : k = n
    · rw [if_pos hk, if_pos hk]
      exact ⟨v, r, rfl, hd, h2⟩
    · rw [if_neg hk, if_neg hk]
      exact ⟨v', _, rfl, h1, RepFs.put hd h2⟩
theorem insP {c : Str} {x : D} {v : V} {fs : List (Str × D)} (st : g.Sta W H S) (r : g.Rep W H x v) (e : insF c S x = some fs) :
    ∃ l a dx fv C, x = .obj l ∧ v = .ref a ∧ W.m[l]? = some a ∧ S[l]? = some (.ins c fs) ∧ g.mg c = some (.ref C) ∧ H a = some (.ins C dx fv) ∧ H dx = some (.own a) ∧ RepFs g.K g.mg W H fs fv := by
  cases x with
  | obj l =>
    simp only [Rep] at r
    obtain ⟨a, rfl, ha⟩ := r
    cases ec : S[l]? with
    | none => simp [insF, ec] at e
    | some cell =>
      cases cell with
      | ins c' fs' =>
        have e3 : (if c' = c then some fs' else none) = some fs := by
          have e' : (match S[l]? with
            | some (.ins c' fs) => if c' = c then some fs else none
            | _ => none) = some fs := e
          rw [ec] at e'
          exact e'
        by_cases hc : c' = c
        · rw [if_pos hc] at e3
          have e4 := Option.some.inj e3
          subst e4
          subst hc
          obtain ⟨C, dx, fv, h1, h2, h3, h4⟩ := st.cells l _ a ec ha
          exact ⟨l, a, dx, fv, C, rfl, rfl, ha, ec, h1, h2, h3, h4⟩
        · rw [if_neg hc] at e3
          cases e3
      | lst ds => simp [insF, ec] at e
      | dic ds => simp [insF, ec] at e
  | _ => cases e
end
section
variable {X : Cx} {g : Gb} {Wx : WX} {W₀ : Wo} {H₀ : Hp} {k j n n2 : Nat} {f C : Addr} {sh : List Shp} {M : List Slot → Sto → Res D} {x m c nf : Str} {p pos apos kpos pos' : Pos} {e o value : Expr} {es : List Expr} {kws : List Keyword} {fs fk : Evs} {fo fv : Ev}
/-! ### attributes -/
theorem d_fld (hK : X.K = g.K) (hc : g.mg c = some (.ref C)) (cl : Cls X.K C) (na : NoAttr X.K C nf) (he : PE X o (rd g Wx H₀ (rlR g) fo)) (hb : attributeBase o nf X.env (eval o X.env) = eval o X.env := by rfl) : PE X (.Attribute o nf pos) (rd g Wx H₀ (rlR g) (eFld c nf fo)) :=
  (pe_fld he hb).imp fun σ H Q ⟨W, ρ, S, st, en, h⟩ => step monoR st en h fun v W1 H1 S1 d e1 s1 n1 p1 h1 => by
    obtain ⟨z, ez, h2⟩ := h1.opt
    unfold fldS at ez
    cases ef : insF c S1 d with
    | none => rw [ef] at ez; cases ez
    | some fs =>
      rw [ef] at ez
      obtain ⟨l, a, dx, fv, C', rfl, rfl, hl, hS, hC, ha, hd, rf⟩ := insP s1 p1 ef
      rw [hc] at hC
      cases hC
      have ez : fs.lookup nf = some z := ez
      rcases rf.look (n := nf) with ⟨a1, _⟩ | ⟨d', v', a1, a2, a3⟩
      · rw [a1] at ez; cases ez
      · rw [a1] at ez
        cases ez
        exact ⟨a, C, dx, fv, v', rfl, ha, cl, na, a2, h2 v' W1 H1 Ext.refl s1 a3⟩
theorem s_fld (hc : g.mg c = some (.ref C)) (cl : Cls X.K C) (na : NoAttr X.K C nf) (ho : PE X o (rd g Wx H₀ (rlR g) fo)) (hv : PE X value (rd g Wx H₀ (rlR g) fv)) (hs : swapsWith value (some (.Attribute o nf pos')) pos.line X.env = pure false := by rfl) :
    PS X (.Assign [.Attribute o nf pos'] value pos) (sd g Wx W₀ H₀ (sFld c nf fo fv)) :=
  (ps_fld ho hv hs).imp fun D σ H ⟨W, ρ, S, st, en, ex, h⟩ => sstep st en ex h fun y W1 H1 S1 dy e1 s1 n1 x1 p1 h1 => sstep s1 n1 x1 h1 fun v W2 H2 S2 d e2 s2 n2 x2 p2 h2 => by
    cases d with
    | obj l =>
      have h2 : sdp g Wx W₀ H₀ D W2 H2 ((opt (match S2[l]? with
        | some (.ins c' fs) => if c' = c ∧ fs.length < 1000 then some (S2.set l (.ins c (putA nf dy fs))) else none
        | _ => none) S2).bind fun S3 _ => .ok (.nx ρ) S3) := h2
      cases ec : S2[l]? with
      | none => rw [ec] at h2; exact h2.elim
      | some cell =>
        rw [ec] at h2
        cases cell with
        | ins c' fs =>
          by_cases hcc : c' = c ∧ fs.length < 1000
          · have h2 : sdp g Wx W₀ H₀ D W2 H2 ((opt (if c' = c ∧ fs.length < 1000 then some (S2.set l (.ins c (putA nf dy fs))) else none) S2).bind fun S3 _ => .ok (.nx ρ) S3) := h2
            rw [if_pos hcc] at h2
            obtain ⟨rfl, hlen⟩ := hcc
            obtain ⟨l', a, dx, fv', C', e', rfl, hl, hS, hC, ha, hd, rf⟩ := insP (c := c') s2 p2 (fs := fs) (by simp [insF, ec])
            cases e'
            rw [hc] at hC
            cases hC
            refine ⟨a, C, dx, fv', rfl, ha, cl, na, by rw [rf.len]; exact hlen, ?_⟩
            have ma : a ∈ W2.m := List.mem_of_getElem? hl
            have ne : dx ≠ a := fun z => by rw [z, ha] at hd; cases hd
            have lo := clLo (o' := .ins C dx (putF nf y fv')) s2 ma
            exact h2 σ W2 _ (s2.putCell hl ha trivial ⟨C, dx, _, hc, upd_same, by rw [upd_ne ne]; exact hd, RepFs.lo lo (RepFs.put (Rep.ext e2 s1 p1) rf)⟩) (n2.putCell s2 ma ha trivial) (x2.putCell ma) lo
          · have h2 : sdp g Wx W₀ H₀ D W2 H2 ((opt (if c' = c ∧ fs.length < 1000 then some (S2.set l (.ins c (putA nf dy fs))) else none) S2).bind fun S3 _ => .ok (.nx ρ) S3) := h2
            rw [if_neg hcc] at h2
            exact h2.elim
        | lst ds => exact h2.elim
        | dic ds => exact h2.elim
    | _ => exact h2.elim
/-! ### o.m(..) -/
theorem insMP {W : Wo} {H : Hp} {S : Sto} {d : D} {v : V} {u : Unit} (st : g.Sta W H S) (r : g.Rep W H d v) (hc : g.mg c = some (.ref C)) (e : insM c m S d = some u) : ∃ a dx fv, v = .ref a ∧ H a = some (.ins C dx fv) ∧ fv.lookup m = none := by
  unfold insM at e
  cases ef : insF c S d with
  | none => rw [ef] at e; cases e
  | some fs =>
    rw [ef] at e
    obtain ⟨l, a, dx, fv, C', rfl, rfl, hl, hS, hC, ha, hd, rf⟩ := insP st r ef
    rw [hc] at hC
    cases hC
    rcases rf.look (n := m) with ⟨a1, a2⟩ | ⟨d', v', a1, a2, a3⟩
    · exact ⟨a, dx, fv, rfl, ha, a2⟩
    · have e : (if (fs.lookup m).isNone = true then some () else none) = some u := e
      rw [a1] at e
      cases e
theorem c_meth {pl : Sem Bool} (tk : Takes X Wx) (hc : g.mg c = some (.ref C)) (cl : Cls X.K C) (me : Meth X.K C m f) (F : DFn X.prog X.w X.K X.mg X.base g k f (n + 1) sh M) (hr : Room j X.A) (hk : k ≤ j) (ho : PE X o (rd g Wx H₀ (rlR g) fo)) (ha : PA X (e :: es) (rd g Wx H₀ (rlN g n) fs))
    (hst : starEach (e :: es) X.env = (false, eval e X.env) :: starEach es X.env := by rfl) (hpl : (backTo pos (starEach es X.env)).any (·.1) = false := by rfl)
    (ht : eval (.Call (.Attribute o m apos) (e :: es) [] pos) X.env = (do
      let ov ← eval o X.env
      standAt apos.atName
      let (f, first) ← holding [ov] (getMethod ov m pl)
      callWith pos f first (backTo pos (starEach (e :: es) X.env)) (backToKw pos (keywordEach [] X.env))) := by rfl) :
    PE X (.Call (.Attribute o m apos) (e :: es) [] pos) (rd g Wx H₀ (rlR g) (eMeth c m M fo fs)) := by
  obtain ⟨fd, ps, F1, hkp, hb, _⟩ := F.ex
  refine ⟨fun pins s σ H Q I ⟨W, ρ, S, st, en, h⟩ => ?_⟩
  refine PySem.W.methodCall_KW (pl := pl) (thn (ho.run pins s σ H (fun v H1 => ∃ a dx fv, v = .ref a ∧ H1 a = some (.ins C dx fv) ∧ fv.lookup m = none ∧ rd g Wx H₀ (rlN g n) fs σ H1 fun vs H2 => spF g (n + 1) M (.ref a :: vs) H2 Q (WE Wx σ)) I ?_) fun u s1 ⟨v, H1, I1, rx, a, dx, fv, ex, ea, l, q⟩ => ?_) ht
  · refine step monoR st en h fun v W1 H1 S1 d e1 s1 n1 p1 h1 => ?_
    cases em : insM c m S1 d with
    | none => rw [em] at h1; exact h1.elim
    | some u =>
      rw [em] at h1
      obtain ⟨a, dx, fv, rfl, ha', hl⟩ := insMP s1 p1 hc em
      exact ⟨a, dx, fv, rfl, ha', hl, step monoR s1 n1 h1 fun xs W2 H2 S2 ds e2 s2 n2 p2 h2 => rdp_call s2 (.of (show g.Reps W2 H2 (d :: ds) (.ref a :: xs) from by simp only [Reps]; exact ⟨_, _, rfl, Rep.ext e2 s1 p1, p2.1⟩)) (by rw [List.length_map, List.length_cons, p2.2]) h2⟩
  · subst ex
    obtain rfl : u = Value.ref a := rx
    refine getmeth_ok I1 ea cl me l ?_
    refine PySem.W.callWith_K (first := [.ref a]) (h₀ := X.base) I.ok.mod.kin me.kp (thn (ha.run pos pins s1 σ H1 _ I1 q) fun us s2 ⟨vs, H2, I2, r, q2⟩ => ⟨I2.kIn, ?_⟩) hst hpl
    exact run_fnS (us := .ref a :: us) (vs := .ref a :: vs) F1 (hr.mono hk) hb (passAt tk σ) I2 (.cons rfl r) q2
theorem c_meth0 {pl : Sem Bool} (tk : Takes X Wx) (hc : g.mg c = some (.ref C)) (cl : Cls X.K C) (me : Meth X.K C m f) (F : DFn X.prog X.w X.K X.mg X.base g k f 1 sh M) (hr : Room j X.A) (hk : k ≤ j) (ho : PE X o (rd g Wx H₀ (rlR g) fo))
    (ht : eval (.Call (.Attribute o m apos) [] [] pos) X.env = (do
      let ov ← eval o X.env
      standAt apos.atName
      let (f, first) ← holding [ov] (getMethod ov m pl)
      callWith pos f first (backTo pos (starEach [] X.env)) (backToKw pos (keywordEach [] X.env))) := by rfl) :
    PE X (.Call (.Attribute o m apos) [] [] pos) (rd g Wx H₀ (rlR g) (eMeth c m M fo eNil)) := by
  obtain ⟨fd, ps, F1, hkp, hb, _⟩ := F.ex
  refine ⟨fun pins s σ H Q I ⟨W, ρ, S, st, en, h⟩ => ?_⟩
  refine PySem.W.methodCall_KW (pl := pl) (thn (ho.run pins s σ H (fun v H1 => ∃ a dx fv, v = .ref a ∧ H1 a = some (.ins C dx fv) ∧ fv.lookup m = none ∧ spF g 1 M [.ref a] H1 Q (WE Wx σ)) I ?_) fun u s1 ⟨v, H1, I1, rx, a, dx, fv, ex, ea, l, q⟩ => ?_) ht
  · refine step monoR st en h fun v W1 H1 S1 d e1 s1 n1 p1 h1 => ?_
    cases em : insM c m S1 d with
    | none => rw [em] at h1; exact h1.elim
    | some u =>
      rw [em] at h1
      obtain ⟨a, dx, fv, rfl, ha', hl⟩ := insMP s1 p1 hc em
      exact ⟨a, dx, fv, rfl, ha', hl, rdp_call (ss := [.fz d]) s1 ⟨_, [], rfl, p1, rfl⟩ rfl h1⟩
  · subst ex
    obtain rfl : u = Value.ref a := rx
    refine getmeth_ok I1 ea cl me l ?_
    exact PySem.W.callWith_K0 (first := [.ref a]) I1.kIn me.kp (run_fnS (us := [.ref a]) (vs := [.ref a]) F1 (hr.mono hk) hb (passAt tk σ) I1 (.cons rfl .nil) q)
end
end DL

set_option Elab.async false
set_option linter.all false
set_option maxRecDepth 100000
set_option maxHeartbeats 2000000
/-! DL, part W: making instances, properties, writing into lists of the store. -/
namespace DL
open PySem PySem.Spec PyProof.Rows L2 NdefX LamX
def mkRK (c : Str) (M : List Slot → Sto → Res D) (ord : List Nat) (ds : List D) (S : Sto) : Res D := (M ((permV ord (.obj S.length :: ds)).map .fz) (S ++ [.ins c []])).bind fun v S2 => match v with
  | .non => .ok (.obj S.length) S2
  | _ => .bad
def eMk (c : Str) (M : List Slot → Sto → Res D) (ord : List Nat) (fs : Evs) : Ev := fun ρ S => (fs ρ S).bind fun ds S1 => mkRK c M ord ds S1
def ePrp (c : Str) (M : List Slot → Sto → Res D) (fo : Ev) : Ev := fun ρ S => (fo ρ S).bind fun x S1 => (opt (insF c S1 x) S1).bind fun _ _ => noX (M [.fz x] S1)
section
variable {X : Cx} {g : Gb} {Wx : WX} {W₀ : Wo} {H₀ : Hp} {k j n n2 : Nat} {f C pa : Addr} {sh : List Shp} {M : List Slot → Sto → Res D} {x m c nf : Str} {p pos apos kpos pos' : Pos} {e o value : Expr} {es : List Expr} {kws : List Keyword} {fs fk : Evs} {fo fv fi : Ev}
theorem run_mk {pins : List (Addr × Obj)} {σ : L2.St} {H : Hp} {s : Shared} {Q : VK} {us ws : List Value} {vs zs : List V} {fd : FuncData} {ps ks : List Str} {ord : List Nat} {sp : Sp} (Mc : Mk X.K C f) (F1 : FnOk X.prog X.w X.K X.mg X.base (L2.CX X.prog X.w) k f fd ps sp) (hr : Room (k + 1) X.A)
    (hb : ∀ (s : Shared) (a : Value), X.K.In s.heap → BindsTo s fd ⟨a :: us, ks.zip ws⟩ (ps.zip (permV ord (a :: us ++ ws)))) (tk : Takes X Wx) (I : Inv X pins σ H s) (r : Vals vs us) (rz : Vals zs ws)
    (h : ∀ x dx, H x = none → H dx = none → dx ≠ x → sp (permV ord (.ref x :: vs ++ zs)) (upd (upd H dx (.own x)) x (.ins C dx [])) (fun v H2 => v = .non ∧ Q (.ref x) H2) (WE Wx σ)) :
    wpAny (model X.prog X.w) X.A (call (.ref C) us (ks.zip ws)) (EP X pins σ Q) X.xe s := by
  have hq := h (s.heap.objs.size + 1) s.heap.objs.size (I.hok.fresh (Nat.le_succ _)) (I.hok.fresh (Nat.le_refl _)) (Nat.ne_of_lt (Nat.lt_succ_self _))
  have I2 := Inv.made (C := C) I
  have r1 : Vals (V.ref (s.heap.objs.size + 1) :: vs) (Value.ref (s.heap.objs.size + 1) :: us) := .cons rfl r
  have r2 : Vals (permV ord (V.ref (s.heap.objs.size + 1) :: vs ++ zs)) (permV ord (Value.ref (s.heap.objs.size + 1) :: us ++ ws)) := permV_rel r1 rz
  refine wpAny_call (make_map (f := f) I.kIn Mc.makes Mc.init (beq_iff_eq.mp Mc.fn) (codeAny_mono (F1.run _ X.stack _ _ ⟨Value.ref (s.heap.objs.size + 1) :: us, ks.zip ws⟩ _ _ _ (WE Wx σ) (hr.make C us (ks.zip ws))
    (I2.env0.make C us (ks.zip ws)) (hb _ (Value.ref (s.heap.objs.size + 1)) I2.kIn) r2 hq) fun r s' hq' => ?_))
  cases r with
  | error e => exact passAt tk σ pins _ _ e s' I2 hq'
  | ok fl =>
    cases fl with
    | ret u =>
      obtain ⟨v, H', I3, rv, ev, q3⟩ := I2.after hq'
      subst ev
      exact ⟨rv, ⟨V.ref (s.heap.objs.size + 1), H', I3, rfl, q3⟩⟩
    | next => exact False.elim hq'
    | brk => exact False.elim hq'
    | cont => exact False.elim hq'
/-- the new thing, as __init__ sees it -/
theorem mkIn {W : Wo} {H : Hp} {S : Sto} {σ : L2.St} {ord : List Nat} {ds : List D} {vs : List V} {Q : VK} (st : g.Sta W H S) (hc : g.mg c = some (.ref C)) (rs : g.Reps W H ds vs) (hl : (permV ord (.obj S.length :: ds)).length = n)
    (h : rdp g Wx (rlR g) σ W H (mkRK c M ord ds S) Q) : ∀ x dx, H x = none → H dx = none → dx ≠ x → spF g n M (permV ord (.ref x :: vs)) (upd (upd H dx (.own x)) x (.ins C dx [])) (fun v H2 => v = .non ∧ Q (.ref x) H2) (WE Wx σ) := by
  intro x dx nx ndx ne
  have e1 : Ext W H W (upd H dx (.own x)) := Ext.new ndx
  have s1 : g.Sta W (upd H dx (.own x)) S := st.new ndx
  have nx1 : (upd H dx (.own x)) x = none := by rw [upd_ne (Ne.symm ne)]; exact nx
  have e2 : Ext W (upd H dx (.own x)) (W.cell x) (upd (upd H dx (.own x)) x (.ins C dx [])) := Ext.newCell nx1
  have s2 : g.Sta (W.cell x) (upd (upd H dx (.own x)) x (.ins C dx [])) (S ++ [.ins c []]) := s1.newCell nx1 ⟨C, dx, [], hc, upd_same, by rw [upd_ne ne, upd_same], rfl⟩
  have rs2 : g.Reps (W.cell x) (upd (upd H dx (.own x)) x (.ins C dx [])) (.obj S.length :: ds) (.ref x :: vs) := by
    simp only [Reps]
    exact ⟨_, _, rfl, Rep.cellAt (g := g) st.len, (rs.ext e1 st).ext e2 s1⟩
  refine spF_of s2 (.of (rs2.perm ord)) (by rw [List.length_map]; exact hl) ?_
  have h : rdp g Wx (rlR g) σ W H ((M ((permV ord (.obj S.length :: ds)).map .fz) (S ++ [.ins c []])).bind fun v S2 => match v with
    | .non => .ok (.obj S.length) S2
    | _ => .bad) Q := h
  revert h
  cases M ((permV ord (.obj S.length :: ds)).map .fz) (S ++ [.ins c []]) with
  | ok d S2 =>
    cases d with
    | non =>
      refine fun h v W3 H3 e3 s3 r3 => ⟨by simpa only [Rep] using r3, ?_⟩
      refine h (.ref x) W3 H3 ((e1.trans e2).trans e3) s3 ?_
      have hx : g.Rep (W.cell x) (upd (upd H dx (.own x)) x (.ins C dx [])) (.obj S.length) (.ref x) := Rep.cellAt (g := g) st.len
      exact hx.ext e3 s2
    | _ => exact fun h => h.elim
  | exc y S2 => exact fun h W3 H3 cls d e3 s3 p3 => h W3 H3 cls d ((e1.trans e2).trans e3) s3 p3
  | bad => exact fun h => h
theorem permV_len {α : Type} {l : List α} {ord : List Nat} (h : ord.all (fun i => decide (i < l.length)) = true) : (permV ord l).length = ord.length := by
  induction ord with
  | nil => rfl
  | cons i o ih =>
    simp only [List.all_cons, Bool.and_eq_true, decide_eq_true_eq] at h
    unfold permV at ih ⊢
    rw [List.filterMap_cons, List.getElem?_eq_getElem h.1]
    simp [ih h.2]
theorem permV_id {α : Type} (l : List α) : permV (List.range l.length) l = l := by
  unfold permV
  apply List.ext_getElem?
  intro i
  have : ∀ (m : Nat), m ≤ l.length → (List.range m).filterMap (fun i => l[i]?) = l.take m := by
    intro m
    induction m with
    | zero => intro _; simp
    | succ m ih =>
      intro hm
      have hlt : m < l.length := by omega
      rw [List.range_succ, List.filterMap_append, ih (by omega), List.take_succ]
      congr 1
  rw [this l.length (Nat.le_refl _), List.take_length]
/-- C(e, ..) -/
theorem c_mk (tk : Takes X Wx) (Mc : Mk X.K C f) (F : DFn X.prog X.w X.K X.mg X.base g k f (n + 1) sh M) (hr : Room j X.A) (hk : k + 1 ≤ j) (hg : Gl X x) (hm : X.mg x = some (.ref C)) (hmg : g.mg = X.mg) (ha : PA X (e :: es) (rd g Wx H₀ (rlN g n) fs))
    (hdb : (x == ("__debug__" : Str)) = false := by decide) (he : starEach (e :: es) X.env = (false, eval e X.env) :: starEach es X.env := by rfl) (hpl : (backTo pos (starEach es X.env)).any (·.1) = false := by rfl) :
    PE X (.Call (.Name x p) (e :: es) [] pos) (rd g Wx H₀ (rlR g) (eMk x M (List.range (n + 1)) fs)) := by
  obtain ⟨fd, ps, F1, hkp, hb, _⟩ := F.ex
  refine ⟨fun pins s σ H Q I ⟨W, ρ, S, st, en, h⟩ => ?_⟩
  refine wpAny_Call_Name_kw (ld_glob I hg hm ?_ hdb)
  refine PySem.W.callWith_K (h₀ := X.base) I.ok.mod.kin Mc.kp (thn (ha.run pos pins s σ H (fun vs H1 => vs.length = n ∧ ∀ x dx, H1 x = none → H1 dx = none → dx ≠ x → spF g (n + 1) M (.ref x :: vs) (upd (upd H1 dx (.own x)) x (.ins C dx [])) (fun v H2 => v = .non ∧ Q (.ref x) H2) (WE Wx σ)) I ?_) fun us s1 ⟨vs, H1, I1, r, l1, q⟩ => ⟨I1.kIn, ?_⟩) he hpl
  · refine step monoR st en h fun xs W1 H1 S1 ds e1 s1 n1 p1 h1 => ?_
    have hl : (D.obj S1.length :: ds).length = n + 1 := by rw [List.length_cons, p1.2]
    have hl2 : ∀ x, (V.ref x :: xs).length = n + 1 := fun x => by rw [List.length_cons, p1.1.len, p1.2]
    refine ⟨by rw [p1.1.len, p1.2], fun x' dx nx ndx ne => ?_⟩
    have := mkIn (n := n + 1) s1 (hmg.symm ▸ hm) p1.1 (by rw [← hl, permV_id]) h1 x' dx nx ndx ne
    rw [← hl2 x', permV_id] at this
    rw [hl2 x'] at this
    exact this
  · have hps : ps.length = n + 1 := by
      have := F1.len _ _ _ _ (q (s1.heap.objs.size + 1) s1.heap.objs.size (I1.hok.fresh (Nat.le_succ _)) (I1.hok.fresh (Nat.le_refl _)) (Nat.ne_of_lt (Nat.lt_succ_self _)))
      rw [← this, List.length_cons, l1]
    refine run_mk (us := us) (vs := vs) (ws := []) (zs := []) (ks := []) (ord := List.range (n + 1)) Mc F1 (hr.mono (by omega : k + 1 ≤ j)) (fun s2 a KX => ?_) tk I1 r .nil fun x dx nx ndx ne => ?_
    · have hl3 : (a :: us ++ []).length = n + 1 := by rw [List.append_nil, List.length_cons, ← r.length, l1]
      have := hb s2 (a :: us) KX (by rw [List.append_nil, hps]; rw [List.append_nil] at hl3; exact hl3)
      rw [List.append_nil] at this
      rw [← hl3, permV_id, List.append_nil]
      exact this
    · have hl3 : (V.ref x :: vs ++ []).length = n + 1 := by rw [List.append_nil, List.length_cons, l1]
      have key := permV_id (V.ref x :: vs ++ [])
      rw [hl3] at key
      rw [key, List.append_nil]
      exact q x dx nx ndx ne
/-- C(k = v, ..) -/
theorem c_mkK {ks : List Str} {ord : List Nat} (tk : Takes X Wx) (Mc : Mk X.K C f) (F : DFn X.prog X.w X.K X.mg X.base g k f n sh M) (hsh : (1, ks, ord) ∈ sh) (hr : Room j X.A) (hk : k + 1 ≤ j) (hg : Gl X x) (hm : X.mg x = some (.ref C)) (hmg : g.mg = X.mg) (hlen : ks.length = n2) (hord : ord.length = n) (hlt : ord.all (fun i => decide (i < n2 + 1)) = true)
    (hkw : PK X kws (rd g Wx H₀ (rlN g n2) fk)) (hall : (backToKw pos (keywordEach kws X.env)).all (·.1.isSome) = true := by rfl) (hks : (backToKw pos (keywordEach kws X.env)).filterMap (·.1) = ks := by rfl) (hdb : (x == ("__debug__" : Str)) = false := by decide)
    (hpl : ((backTo pos (starEach [] X.env)).any (·.1) || (backToKw pos (keywordEach kws X.env)).any (·.1.isNone)) = false := by rfl) :
    PE X (.Call (.Name x p) [] kws pos) (rd g Wx H₀ (rlR g) (eMk x M ord fk)) := by
  obtain ⟨fd, ps, F1, hkp, hb, hkb⟩ := F.ex
  refine ⟨fun pins s σ H Q I ⟨W, ρ, S, st, en, h⟩ => ?_⟩
  refine wpAny_Call_Name_kw (ld_glob I hg hm ?_ hdb)
  refine PySem.W.callWith_KW0 (h₀ := X.base) I.ok.mod.kin Mc.kp hall ?_ hpl
  refine thn (hkw.run pos pins s σ H (fun zs H2 => zs.length = n2 ∧ ∀ x dx, H2 x = none → H2 dx = none → dx ≠ x → spF g n M (permV ord (.ref x :: zs)) (upd (upd H2 dx (.own x)) x (.ins C dx [])) (fun v H3 => v = .non ∧ Q (.ref x) H3) (WE Wx σ)) I ?_) fun ws s2 ⟨zs, H2, I2, rz, q1, q2⟩ => ⟨I2.kIn, ?_⟩
  · refine step monoR st en h fun xs W1 H1 S1 ds e1 s1 n1 p1 h1 => ⟨by rw [p1.1.len, p1.2], ?_⟩
    exact mkIn s1 (hmg.symm ▸ hm) p1.1 (by rw [permV_len (by rw [List.length_cons, p1.2]; exact hlt), hord]) h1
  · rw [hks]
    refine run_mk (us := []) (vs := []) Mc F1 (hr.mono (by omega : k + 1 ≤ j)) (fun s3 a KX => ?_) tk I2 .nil rz fun x dx nx ndx ne => q2 x dx nx ndx ne
    exact (hkb _ hsh).to s3 [a] ws KX rfl (by rw [← rz.length, q1, hlen])
/-- o.n, a property -/
theorem d_prop (hc : g.mg c = some (.ref C)) (cl : Cls X.K C) (hp : PropOf X.K C nf pa f) (F : DFn X.prog X.w X.K X.mg X.base g k f 1 sh M) (hr : Room j X.A) (hk : k + 1 ≤ j) (he : PE X o (rd g Wx H₀ (rlR g) fo)) (hb : attributeBase o nf X.env (eval o X.env) = eval o X.env := by rfl) :
    PE X (.Attribute o nf pos) (rd g Wx H₀ (rlR g) (ePrp c M fo)) := by
  obtain ⟨fd, ps, F1, hkp, hbi, _⟩ := F.ex
  refine (pe_prop (dvs := []) (ds := []) (E := E0) he cl hp F1 (hr.mono hk) hbi .nil (passL (X := X.nox)) hb).imp fun σ H Q ⟨W, ρ, S, st, en, h⟩ => step monoR st en h fun v W1 H1 S1 d e1 s1 n1 p1 h1 => ?_
  cases ef : insF c S1 d with
  | none => rw [ef] at h1; exact h1.elim
  | some fs =>
    rw [ef] at h1
    have h1 : rdp g Wx (rlR g) σ W1 H1 (noX (M [.fz d] S1)) Q := h1
    obtain ⟨l, a, dx, fv, C', rfl, rfl, hl, hS, hC, ha, hd, rf⟩ := insP s1 p1 ef
    rw [hc] at hC
    cases hC
    refine ⟨a, dx, fv, rfl, ha, spF_of (ss := [.fz (.obj l)]) s1 ⟨_, [], rfl, p1, rfl⟩ rfl ?_⟩
    revert h1
    cases M [.fz (.obj l)] S1 with
    | ok d S' => exact fun h => h
    | exc y S' => exact fun h => h.elim
    | bad => exact fun h => h
/-! ### o[i] = e -/
def setIx (y : D) (S : Sto) : D → D → Option Sto
  | .obj l, .int i => (match S[l]? with
    | some (.lst ds) => (ixNat ds.length i).map fun j => S.set l (.lst (ds.set j y))
    | _ => none)
  | _, _ => none
def sIxS (fo fi fv : Ev) : Sv := fun ρ S => (fv ρ S).bind fun y S1 => (fo ρ S1).bind fun x S2 => (fi ρ S2).bind fun k S3 => (opt (setIx y S3 x k) S3).bind fun S4 _ => .ok (.nx ρ) S4
/-- o[i], name = e -/
def sIxNm (fo fi : Ev) (m : Nat) (fv : Ev) : Sv := fun ρ S => (fv ρ S).bind fun w S1 => match w with
  | .tup [y, z] => (fo ρ S1).bind fun x S2 => (fi ρ S2).bind fun k S3 => (opt (setIx y S3 x k) S3).bind fun S4 _ => .ok (.nx (ρ.set m (.fz z))) S4
  | _ => .bad
theorem Reps.set {W : Wo} {H : Hp} {y : D} {v : V} (hy : g.Rep W H y v) : ∀ {ds : List D} {vs : List V} {j : Nat}, g.Reps W H ds vs → g.Reps W H (ds.set j y) (vs.set j v)
  | [], vs, j, h => by simp only [Reps] at h; subst h; simp [Reps]
  | d :: ds, vs, 0, h => by
    simp only [Reps] at h
    obtain ⟨u, r, rfl, h1, h2⟩ := h
    simp only [List.set_cons_zero, Reps]
    exact ⟨v, r, rfl, hy, h2⟩
  | d :: ds, vs, j + 1, h => by
    simp only [Reps] at h
    obtain ⟨u, r, rfl, h1, h2⟩ := h
    simp only [List.set_cons_succ, Reps]
    exact ⟨u, _, rfl, h1, Reps.set hy h2⟩
theorem setIxP {W : Wo} {H : Hp} {S S' : Sto} {ρ : DL.Env} {σ : L2.St} {x k y : D} {vx vk vy : V} {T : Hp → Prop} (st : g.Sta W H S) (en : EnvOk g W H H₀ ρ σ) (ex : Ext W₀ H₀ W H) (rx : g.Rep W H x vx) (rk : g.Rep W H k vk) (ry : g.Rep W H y vy) (e : setIx y S x k = some S')
    (h : ∀ H', g.Sta W H' S' → EnvOk g W H' H₀ ρ σ → Ext W₀ H₀ W H' → Lo W H W H' → T H') : rSetL vx vk vy H T := by
  cases x with
  | obj l =>
    cases k with
    | int i =>
      have e : (match S[l]? with
        | some (.lst ds) => (ixNat ds.length i).map fun j => S.set l (.lst (ds.set j y))
        | _ => none) = some S' := e
      cases ec : S[l]? with
      | none => rw [ec] at e; cases e
      | some c =>
        rw [ec] at e
        cases c with
        | lst ds =>
          have e : (ixNat ds.length i).map (fun j => S.set l (.lst (ds.set j y))) = some S' := e
          cases ej : ixNat ds.length i with
          | none => rw [ej] at e; cases e
          | some j =>
            rw [ej] at e
            cases e
            simp only [Rep] at rx rk
            obtain ⟨a, rfl, ha⟩ := rx
            subst rk
            obtain ⟨xs, hx, rs⟩ := st.cells l _ a ec ha
            have ma : a ∈ W.m := List.mem_of_getElem? ha
            have lo := clLo (g := g) (o' := .lst (xs.set j vy)) st ma
            refine ⟨a, xs, i, j, rfl, rfl, hx, by rw [rs.len]; exact ej, h _ (st.putCell ha hx trivial ⟨_, upd_same, (Reps.set ry rs).lo lo⟩) (en.putCell st ma hx trivial) (ex.putCell ma) lo⟩
        | dic ds => cases e
        | ins c fs => cases e
    | _ => cases e
  | _ => cases e
theorem s_ixS (ho : PE X o (rd g Wx H₀ (rlR g) fo)) (hi : PE X e (rd g Wx H₀ (rlR g) fi)) (hv : PE X value (rd g Wx H₀ (rlR g) fv))
    (has : ∀ v, assign (.Subscript o e apos) X.env v = (do
      let ov ← holding [v] (eval o X.env)
      let iv ← holding [v, ov] (eval e X.env)
      standAt apos
      holding [v, ov, iv] (setItem ov iv v)
      release [v, ov, iv] []) := by intro _; rfl)
    (hs : swapsWithSole [.Subscript o e apos] value pos.line X.env = pure false := by rfl) (hw : swappedStores [.Subscript o e apos] value X.env = pure none := by rfl)
    (h1 : (assignEach [.Subscript o e apos] X.env).map (·.2) = [assign (.Subscript o e apos) X.env] := by rfl) : PS X (.Assign [.Subscript o e apos] value pos) (sd g Wx W₀ H₀ (sIxS fo fi fv)) :=
  (ps_asg hv (pg_sub ho hi set_list has) hs hw h1).imp fun D σ H ⟨W, ρ, S, st, en, ex, h⟩ => sstep st en ex h fun vy W1 H1 S1 y e1 s1 n1 x1 p1 h1 => sstep s1 n1 x1 h1 fun vx W2 H2 S2 x e2 s2 n2 x2 p2 h2 => sstep s2 n2 x2 h2 fun vk W3 H3 S3 k e3 s3 n3 x3 p3 h3 => by
    cases es : setIx y S3 x k with
    | none => rw [es] at h3; exact h3.elim
    | some S4 =>
      rw [es] at h3
      exact setIxP s3 n3 x3 (Rep.ext e3 s2 p2) p3 (Rep.ext e3 s2 (Rep.ext e2 s1 p1)) es fun H' s' n' x' l' => h3 σ W3 H' s' n' x' l'
theorem s_ixNm {i : Nat} {y : Str} {py tp : Pos} {kt : Nat} (hK : X.K = g.K) (hcalm : X.calm = true) (hN : X.N.Nodup) (hi' : X.N[i]? = some y) (hx : Loc X.env.scope y) (ho : PE X o (rd g Wx H₀ (rlR g) fo)) (hi : PE X e (rd g Wx H₀ (rlR g) fi)) (hv : PE X value (rd g Wx H₀ (rlR g) fv))
    (hf : X.fn y = true ∨ X.env.scope.names.lookup y = some .local)
    (has : ∀ v, assign (.Subscript o e apos) X.env v = (do
      let ov ← holding [v] (eval o X.env)
      let iv ← holding [v, ov] (eval e X.env)
      standAt apos
      holding [v, ov, iv] (setItem ov iv v)
      release [v, ov, iv] []) := by intro _; rfl)
    (hs : swapsWithSole [.Tuple [.Subscript o e apos, .Name y py] kt tp] value pos.line X.env = pure false := by rfl) (hw : swappedStores [.Tuple [.Subscript o e apos, .Name y py] kt tp] value X.env = pure none := by rfl)
    (h1 : (assignEach [.Tuple [.Subscript o e apos, .Name y py] kt tp] X.env).map (·.2) = [assign (.Tuple [.Subscript o e apos, .Name y py] kt tp) X.env] := by rfl)
    (h2 : (assignEach [.Subscript o e apos, .Name y py] X.env).map (·.2) = assign (.Subscript o e apos) X.env :: (assignEach [.Name y py] X.env).map (·.2) := by rfl) (h3 : (assignEach [.Name y py] X.env).map (·.2) = assign (.Name y py) X.env :: (assignEach [] X.env).map (·.2) := by rfl)
    (hn : (assignEach [.Subscript o e apos, .Name y py] X.env).length = 2 := by rfl) (hst : (assignEach [.Subscript o e apos, .Name y py] X.env).findIdx? (·.1) = none := by rfl) :
    PS X (.Assign [.Tuple [.Subscript o e apos, .Name y py] kt tp] value pos) (sd g Wx W₀ H₀ (sIxNm fo fi i fv)) :=
  (ps_asg hv (pg_tup hcalm (pgs_cons (pg_sub ho hi set_list has) (pgs_cons (pg_name hN hi' hx hf) pgs_nil h3) h2) hn hst) hs hw h1).imp fun D σ H ⟨W, ρ, S, st, en, ex, h⟩ => sstep st en ex h fun vw W1 H1 S1 w e1 s1 n1 x1 p1 h1 => by
    cases w with
    | tup ds =>
      match ds, p1, h1 with
      | [], p1, h1 => exact h1.elim
      | [_], p1, h1 => exact h1.elim
      | _ :: _ :: _ :: _, p1, h1 => exact h1.elim
      | [y', z], p1, h1 =>
        have p1 : g.Rep W1 H1 (.tup [y', z]) vw := p1
        simp only [Rep] at p1
        obtain ⟨a, xs, rfl, ht, hr⟩ := p1
        simp only [Reps] at hr
        obtain ⟨vy, _, rfl, ry, vz, _, rfl, rz, rfl⟩ := hr
        refine ⟨a, [vy, vz], rfl, ?_, rfl, vy, [vz], rfl, ?_⟩
        · rw [hK]
          rcases ht with ⟨_, ht⟩ | ht
          · exact .of ht
          · exact .inr ht
        have h1 : sdp g Wx W₀ H₀ D W1 H1 ((fo ρ S1).bind fun x S2 => (fi ρ S2).bind fun k S3 => (opt (setIx y' S3 x k) S3).bind fun S4 _ => .ok (.nx (ρ.set i (.fz z))) S4) := h1
        refine sstep s1 n1 x1 h1 fun vx W2 H2 S2 x e2 s2 n2 x2 p2 h2 => sstep s2 n2 x2 h2 fun vk W3 H3 S3 k e3 s3 n3 x3 p3 h3 => ?_
        cases es : setIx y' S3 x k with
        | none => rw [es] at h3; exact h3.elim
        | some S4 =>
          rw [es] at h3
          refine setIxP s3 n3 x3 (Rep.ext e3 s2 p2) p3 (Rep.ext e3 s2 (Rep.ext e2 s1 ry)) es fun H' s' n' x' l' => ⟨vz, [], rfl, rfl, ?_⟩
          exact h3 _ W3 H' s' (n'.fz i (Rep.lo l' (Rep.ext e3 s2 (Rep.ext e2 s1 rz)))) x' l'
    | _ => exact h1.elim
end
end DL

set_option Elab.async false
set_option linter.all false
set_option maxRecDepth 100000
set_option maxHeartbeats 2000000
/-! DL, part X: zip, join, split; is of bools; == of instances. -/
namespace DL
open PySem PySem.Spec PyProof.Rows L2 NdefX LamX
def zipD : List D → List D → List D
  | x :: xs, y :: ys => .tup [x, y] :: zipD xs ys
  | _, _ => []
def zipS : List D → Option (List D)
  | [.tup xs, .tup ys] => some (zipD xs ys)
  | [.lst xs, .lst ys] => some (zipD xs ys)
  | _ => none
def iZip (as : Evs) : It := fun ρ S => (as ρ S).bind fun xs S1 => opt (zipS xs) S1
theorem zipD_get : ∀ {xs ys : List D} {i : Nat}, (zipD xs ys)[i]? = (xs[i]?).bind fun x => (ys[i]?).map fun y => .tup [x, y]
  | [], ys, i => by simp [zipD]
  | x :: xs, [], i => by simp [zipD]
  | x :: xs, y :: ys, 0 => by simp [zipD]
  | x :: xs, y :: ys, i + 1 => by
    simp only [zipD, List.getElem?_cons_succ]
    exact zipD_get
theorem zipD_len : ∀ {xs ys : List D}, (zipD xs ys).length = min xs.length ys.length
  | [], ys => by simp [zipD]
  | x :: xs, [] => by simp [zipD]
  | x :: xs, y :: ys => by simp only [zipD, List.length_cons, zipD_len]; omega
section
variable {X : Cx} {g : Gb} {Wx : WX} {H₀ : Hp} {a b e o : Expr} {es : List Expr} {f fa : Ev} {fs : Evs} {n : Nat} {pos p apos : Pos} {P : Rl D V} {x : Str}
theorem walk_zipT {K : PySem.W.Frag} {a b : Addr} {xs ys : List V} {n : Nat} (hn : n = min xs.length ys.length) : Walk (RZ.ItzT K a b) n (fun H => SqT K H a xs ∧ SqT K H b ys) (YPair (fun i => xs[i]?) (fun i => ys[i]?)) := by
  subst hn
  refine ⟨fun i _ hi q => ?_, fun _ q => ⟨xs, ys, q.1, q.2, by omega⟩, fun i H v H' _ q y => ?_⟩
  · have h1 : i < xs.length := by omega
    have h2 : i < ys.length := by omega
    exact ⟨xs, ys, xs[i], ys[i], q.1, q.2, by simp [h1], by simp [h2]⟩
  · obtain ⟨T, x, z, h1, h2, h3, h4, h5⟩ := y
    exact ⟨T, x, z, h1, h2, h3, h4 xs q.1, h5 ys q.2⟩
theorem zipWalk {W : Wo} {H : Hp} {J : L2.It} {G : Hp → Prop} {ds es : List D} {xs ys : List V} (hr : g.Reps W H ds xs) (hr2 : g.Reps W H es ys) (w : Walk J (min xs.length ys.length) G (YPair (fun i => xs[i]?) (fun i => ys[i]?))) (hG : ∀ W' H', Lo W H W' H' → G H') : rlI g H W H (zipD ds es) J := by
  refine ⟨_, G, _, w, by rw [zipD_len, hr.len, hr2.len], hG, fun i x W2 H2 S2 H' hi l s2 hy => ?_⟩
  obtain ⟨T, x1, x2, rfl, hn, rfl, h1, h2⟩ := hy
  have hi1 : i < ds.length := by rw [← hr.len]; omega
  have hi2 : i < es.length := by rw [← hr2.len]; omega
  obtain ⟨v, hv, rv⟩ := hr.get (i := i) (d := ds[i]) (by simp [hi1])
  obtain ⟨v2, hv2, rv2⟩ := hr2.get (i := i) (d := es[i]) (by simp [hi2])
  have h1' : xs[i]? = some x1 := h1
  have h2' : ys[i]? = some x2 := h2
  rw [h1'] at hv
  rw [h2'] at hv2
  cases hv
  cases hv2
  have rs : g.Reps W2 H2 [ds[i], es[i]] [x1, x2] := by
    simp only [Reps]
    exact ⟨_, _, rfl, Rep.lo l rv, _, _, rfl, Rep.lo l rv2, rfl⟩
  obtain ⟨e, s, r⟩ := newTup s2 rs hn
  refine ⟨_, _, e, s, ?_, r⟩
  rw [zipD_get]
  simp [hi1, hi2]
theorem i_zip {elts : List Expr} {kk : Nat} {tpos : Pos} (hK : X.K = g.K) (hg : Gl X "zip") (hm : X.mg "zip" = none) (ha : PA X [a, b] (rd g Wx H₀ (rlN g 2) fs)) (hs : starEach [a, b] X.env = (false, eval a X.env) :: starEach [b] X.env := by rfl) (hpl : (backTo pos (starEach [b] X.env)).any (·.1) = false := by rfl) :
    PI X (.Tuple elts kk tpos) (.Call (.Name "zip" p) [a, b] [] pos) (rd g Wx H₀ (rlI g) (iZip fs)) :=
  (RZ.pi_zipA hg hm ha hs hpl).imp fun σ H R ⟨W, ρ, S, st, en, h⟩ => step monoI st en h fun x W1 H1 S1 d e1 s1 n1 p1 h1 => by
    obtain ⟨ds, ed, h2⟩ := h1.opt
    obtain ⟨pr, pl⟩ := p1
    match d, pl with
    | [d, d2], _ =>
      obtain ⟨v, v2, rfl, hv, hv2⟩ := pr.two
      cases d with
      | tup us =>
        cases d2 with
        | tup ws =>
          cases ed
          obtain ⟨a, xs, rfl, r1, q1⟩ := seqWalk s1 hv (ds := us) rfl
          obtain ⟨b, ys, rfl, r2, q2⟩ := seqWalk s1 hv2 (ds := ws) rfl
          simp only [Rep] at hv hv2
          obtain ⟨a', xs', ea, ta, ra⟩ := hv
          obtain ⟨b', ys', eb, tb, rb⟩ := hv2
          cases ea; cases eb
          have stT : ∀ {a xs}, TupA g.K W1 H1 a xs → ∀ W' H', Lo W1 H1 W' H' → SqT g.K H' a xs := fun {a xs} t W' H' l => by
            rcases t with ⟨r, t⟩ | t
            · exact .of (l.keep _ _ r t)
            · exact .inr t
          refine ⟨a, b, xs', ys', rfl, .inr ⟨by rw [hK]; exact stT ta W1 H1 Lo.refl, by rw [hK]; exact stT tb W1 H1 Lo.refl, ?_⟩⟩
          rw [hK]
          exact h2 _ W1 H1 Ext.refl s1 (zipWalk ra rb (walk_zipT rfl) fun W' H' l => ⟨stT ta W' H' l, stT tb W' H' l⟩)
        | _ => cases ed
      | lst us =>
        cases d2 with
        | lst ws =>
          cases ed
          simp only [Rep] at hv hv2
          obtain ⟨a', xs', ea, ta, ra⟩ := hv
          obtain ⟨b', ys', eb, tb, rb⟩ := hv2
          subst ea eb
          have stL : ∀ {a xs}, LstA W1 H1 a xs → ∀ W' H', Lo W1 H1 W' H' → SqL g.K H' a xs := fun {a xs} t W' H' l => .of (l.keep _ _ t.1 t.2)
          refine ⟨a', b', xs', ys', rfl, .inl ⟨by rw [hK]; exact stL ta W1 H1 Lo.refl, by rw [hK]; exact stL tb W1 H1 Lo.refl, ?_⟩⟩
          rw [hK]
          exact h2 _ W1 H1 Ext.refl s1 (zipWalk ra rb (walk_zip rfl) fun W' H' l => ⟨stL ta W' H' l, stL tb W' H' l⟩)
        | _ => cases ed
      | _ => cases d2 <;> cases ed
/-! ### texts -/
def joinM (S : Sto) (x : D) : List D → Option D
  | [y] => (match x with
    | .str a => ((seqS S y).bind txs).bind fun ys => if (ys.map List.length).sum + ys.length * a.length ≤ zLine then some (.str (TL.joinL a ys)) else none
    | _ => none)
  | _ => none
theorem joinL_mem {a : List Nat} : ∀ {ys : List (List Nat)} {c : Nat}, c ∈ TL.joinL a ys → c ∈ a ∨ ∃ y ∈ ys, c ∈ y
  | [], c, h => by simp [TL.joinL] at h
  | [p], c, h => .inr ⟨p, by simp, h⟩
  | p :: q :: r, c, h => by
    simp only [TL.joinL, List.mem_append] at h
    rcases h with h | h | h
    · exact .inr ⟨p, by simp, h⟩
    · exact .inl h
    · rcases joinL_mem h with z | ⟨y, hy, z⟩
      · exact .inl z
      · exact .inr ⟨y, List.mem_cons_of_mem _ hy, z⟩
theorem joinL_len {a : List Nat} : ∀ {ys : List (List Nat)}, (TL.joinL a ys).length ≤ (ys.map List.length).sum + ys.length * a.length
  | [] => by simp [TL.joinL]
  | [p] => by simp [TL.joinL]
  | p :: q :: r => by
    have := joinL_len (a := a) (ys := q :: r)
    simp only [TL.joinL, List.length_append, List.map_cons, List.sum_cons, List.length_cons, Nat.add_mul] at this ⊢
    omega
theorem m_join (hK : X.K = g.K) : MetD g X "str.join" (rlR g) joinM := ⟨_, mt_join, fun W H S d ds z v vs Q st rv rs e k => by
  unfold joinM at e
  split at e
  · obtain ⟨w, rfl, rw'⟩ := rs.one
    rename_i y
    cases d with
    | str a =>
      have e : ((seqS S y).bind txs).bind (fun ys => if (ys.map List.length).sum + ys.length * a.length ≤ zLine then some (.str (TL.joinL a ys)) else none) = some z := e
      cases es : seqS S y with
      | none => rw [es] at e; cases e
      | some ds' =>
        rw [es] at e
        cases et : txs ds' with
        | none => rw [show (some ds').bind txs = txs ds' from rfl, et] at e; cases e
        | some ys =>
          rw [show (some ds').bind txs = txs ds' from rfl, et] at e
          have e : (if (ys.map List.length).sum + ys.length * a.length ≤ zLine then some (D.str (TL.joinL a ys)) else none) = some z := e
          split at e
          · rename_i hb
            cases e
            obtain ⟨p, xs, rfl, h1, h2⟩ := seqP st rw' es
            obtain ⟨hxs, hok⟩ := txs_rep et h2
            obtain ⟨rfl, ha⟩ := rv.str
            subst hxs
            have hm : ys.map strV = (ys.map SX.S).map V.str := by rw [List.map_map]; rfl
            refine ⟨SX.S a, p, ys.map SX.S, rfl, rfl, ?_, ?_, ?_⟩
            · rw [hK, ← hm]; exact seqSq h1
            · rw [SX.lens, List.length_map, SX.S_len]; exact hb
            · rw [SX.join_S]
              refine k _ W H Ext.refl st ?_
              simp only [rlR, Rep]
              refine ⟨rfl, Nat.le_trans joinL_len hb, fun c hc => ?_⟩
              rcases joinL_mem hc with z | ⟨y', hy, z⟩
              · exact ha.2 c z
              · exact (hok y' hy).2 c z
          · cases e
    | _ => cases e
  · cases e⟩
/-! ### is, of bools; == of instances -/
theorem o_isBl : OpD g X (compareOp .Is) (rlR g) (fun _ a b => match a, b with | .bl x, .bl y => some (.bl (x == y)) | _, _ => none) := ⟨_, op_isBl, fun W H S a b z x y Q st ra rb e k => by
  cases a <;> cases b <;> simp only [reduceCtorEq] at e
  cases e
  rename_i p q
  refine ⟨p, q, ra.bl, rb.bl, k _ W H Ext.refl st ?_⟩
  have : decide (p = q) = (p == q) := by cases p <;> cases q <;> rfl
  simp only [rlR, Rep, this]⟩
theorem o_notBl : OpD g X (compareOp .IsNot) (rlR g) (fun _ a b => match a, b with | .bl x, .bl y => some (.bl (!(x == y))) | _, _ => none) := ⟨_, op_notBl, fun W H S a b z x y Q st ra rb e k => by
  cases a <;> cases b <;> simp only [reduceCtorEq] at e
  cases e
  rename_i p q
  refine ⟨p, q, ra.bl, rb.bl, k _ W H Ext.refl st ?_⟩
  have : decide (p = q) = (p == q) := by cases p <;> cases q <;> rfl
  simp only [rlR, Rep, this]⟩
end
end DL

set_option Elab.async false
set_option linter.all false
set_option maxRecDepth 100000
set_option maxHeartbeats 2000000
/-! DL, part Y: == and != of instances without an __eq__ of their own. -/
namespace DL
open PySem PySem.Spec PyProof.Rows L2 NdefX LamX
/-- what == asks of the class -/
structure EqC (K : PySem.W.Frag) (C : Addr) : Prop where
  mro : PySem.W.mroIn K C (.type "object") = some true
  eq : PySem.W.findIn K (.ref C) "__eq__" = some (some (.builtin "object.__eq__"))
  ne : PySem.W.findIn K (.ref C) "__ne__" = some (some (.builtin "object.__ne__"))
section
variable {M : Model} {prog : Program} {w : World} {A : Around} {E : Value → Shared → Prop} {s : Shared} {K : PySem.W.Frag} {x y C : Addr} {ox oy : Obj} {od od' : Option Obj}
theorem eqc_call_same {Q : Value → Shared → Prop} (X : K.In s.heap) (I : PySem.W.InstAt s.heap x ox C od) (e : EqC K C) (hq : Q (.bool true) s) : wpAny (model prog w) A (call (.builtin "object.__eq__") [.ref x, .ref x]) Q E s :=
  wpAny_call (codeAny_call_builtin F.cmp_object.eq.plain F.cmpEntry_eq (PySem.W.check_slot F.cmpKind_eq F.cmpSplit_eq (I.type.andThen (PySem.W.looks_mroIn X e.mro)) (F.cmpArgs_eq _ _) (objEq_entry_same hq)))
theorem eqc_call_other {Q : Value → Shared → Prop} (X : K.In s.heap) (I : PySem.W.InstAt s.heap x ox C od) (J : PySem.W.InstAt s.heap y oy C od') (e : EqC K C) (hxy : x ≠ y) (hx : s.heap.get? x = some ox) (hy : s.heap.get? y = some oy) (hc : ox.cls = .ref C) (hq : Q .notImplemented s) :
    wpAny (model prog w) A (call (.builtin "object.__eq__") [.ref x, .ref y]) Q E s :=
  wpAny_call (codeAny_call_builtin F.cmp_object.eq.plain F.cmpEntry_eq (PySem.W.check_slot F.cmpKind_eq F.cmpSplit_eq (I.type.andThen (PySem.W.looks_mroIn X e.mro)) (F.cmpArgs_eq _ _) (objEq_entry_other hxy hx hy (by rw [hc]; intro z; cases z) hq)))
theorem ifBound_ne {args : List Value} {Q : Option Value → Shared → Prop} (X : K.In s.heap) (I : PySem.W.InstAt s.heap x ox C od) (hs : PySem.W.findIn K (.ref C) "__ne__" = some (some (.builtin "object.__ne__")))
    (h : wpAny M A (call (.builtin "object.__ne__") (.ref x :: args)) (fun v => Q (some v)) E s) : wpAny M A (callSpecialIfBound? (.ref x) "__ne__" args) Q E s := by
  simp only [callSpecialIfBound?, bindSpecialIfBound?]
  refine wpAny_holding (wpAny_bind (wpAny_bind (wpAny_bind (I.type.here ((PySem.W.looks_findIn X hs).here ?_)))))
  refine wpAny_bind (wpAny_askSetting (wpAny_ite ?_))
  have fin : wpAny M A (call (.builtin "object.__ne__") ([.ref x] ++ args) >>= fun v => pure (some v)) Q E s := wpAny_bind (wpAny_mono h (fun v s' h' => wpAny_pure h') fun _ _ h' => h')
  split
  · exact wpAny_bind (wpAny_of_eq (F.cmp_object.ne.bind _) (wpAny_pure (by exact fin)))
  · exact wpAny_tryCatch (wpAny_bind (wpAny_of_eq (F.cmp_object.ne.bind _) (wpAny_pure (by exact fin))))
theorem try_eq_same {Q : Option Value → Shared → Prop} (X : K.In s.heap) (I : PySem.W.InstAt s.heap x ox C od) (e : EqC K C) (hq : Q (some (.bool true)) s) : wpAny (model prog w) A (tryCompare (.ref x) "__eq__" (.ref x)) Q E s := by
  unfold tryCompare
  exact wpAny_bind (HN.ifBound_objEq X I e.eq (eqc_call_same X I e (wpAny_pure hq)))
theorem try_eq_other {Q : Option Value → Shared → Prop} (X : K.In s.heap) (I : PySem.W.InstAt s.heap x ox C od) (J : PySem.W.InstAt s.heap y oy C od') (e : EqC K C) (hxy : x ≠ y) (hx : s.heap.get? x = some ox) (hy : s.heap.get? y = some oy) (hc : ox.cls = .ref C) (hq : Q none s) : wpAny (model prog w) A (tryCompare (.ref x) "__eq__" (.ref y)) Q E s := by
  unfold tryCompare
  exact wpAny_bind (HN.ifBound_objEq X I e.eq (eqc_call_other X I J e hxy hx hy hc (wpAny_pure hq)))
theorem ne_entry_same {Q : Fin → Shared → Prop} (X : K.In s.heap) (I : PySem.W.InstAt s.heap x ox C od) (e : EqC K C) (hu : A.units < cLine) (hq : Q (.done (.ret (.bool false))) s) : wpAny (model prog w) A (Builtin.«object.__ne__» ⟨[.ref x, .ref x], []⟩) Q E s := by
  unfold Builtin.«object.__ne__»
  repeat (first | with_reducible refine wpAny_cRoomFor hu ?_ | with_reducible refine HN.ifBound_objEq X I e.eq (eqc_call_same X I e ?_) | wp_step)
  exact hq
theorem ne_entry_other {Q : Fin → Shared → Prop} (X : K.In s.heap) (I : PySem.W.InstAt s.heap x ox C od) (J : PySem.W.InstAt s.heap y oy C od') (e : EqC K C) (hxy : x ≠ y) (hx : s.heap.get? x = some ox) (hy : s.heap.get? y = some oy) (hc : ox.cls = .ref C) (hu : A.units < cLine) (hq : Q (.done (.ret .notImplemented)) s) :
    wpAny (model prog w) A (Builtin.«object.__ne__» ⟨[.ref x, .ref y], []⟩) Q E s := by
  unfold Builtin.«object.__ne__»
  repeat (first | with_reducible refine wpAny_cRoomFor hu ?_ | with_reducible refine HN.ifBound_objEq X I e.eq (eqc_call_other X I J e hxy hx hy hc ?_) | wp_step)
  exact hq
theorem try_ne_same {Q : Option Value → Shared → Prop} (X : K.In s.heap) (I : PySem.W.InstAt s.heap x ox C od) (e : EqC K C) (hu : A.units + 1 < cLine) (hq : Q (some (.bool false)) s) : wpAny (model prog w) A (tryCompare (.ref x) "__ne__" (.ref x)) Q E s := by
  unfold tryCompare
  exact wpAny_bind (ifBound_ne X I e.ne (wpAny_call (codeAny_call_builtin F.cmp_object.ne.plain F.cmpEntry_ne (PySem.W.check_slot F.cmpKind_ne F.cmpSplit_ne (I.type.andThen (PySem.W.looks_mroIn X e.mro)) (F.cmpArgs_ne _ _) (ne_entry_same (A := A.in1) X I e hu (wpAny_pure hq))))))
theorem try_ne_other {Q : Option Value → Shared → Prop} (X : K.In s.heap) (I : PySem.W.InstAt s.heap x ox C od) (J : PySem.W.InstAt s.heap y oy C od') (e : EqC K C) (hxy : x ≠ y) (hx : s.heap.get? x = some ox) (hy : s.heap.get? y = some oy) (hc : ox.cls = .ref C) (hu : A.units + 1 < cLine) (hq : Q none s) :
    wpAny (model prog w) A (tryCompare (.ref x) "__ne__" (.ref y)) Q E s := by
  unfold tryCompare
  exact wpAny_bind (ifBound_ne X I e.ne (wpAny_call (codeAny_call_builtin F.cmp_object.ne.plain F.cmpEntry_ne (PySem.W.check_slot F.cmpKind_ne F.cmpSplit_ne (I.type.andThen (PySem.W.looks_mroIn X e.mro)) (F.cmpArgs_ne _ _) (ne_entry_other (A := A.in1) X I J e hxy hx hy hc hu (wpAny_pure hq))))))
theorem rc_eq {b : Bool} {Q : Value → Shared → Prop} (X : K.In s.heap) (I : PySem.W.InstAt s.heap x ox C od) (J : PySem.W.InstAt s.heap y oy C od') (e : EqC K C) (hx : s.heap.get? x = some ox) (hy : s.heap.get? y = some oy) (hc : ox.cls = .ref C) (hd : oy.cls = .ref C) (hu : A.units < cLine) (hb : b = decide (x = y)) (hq : Q (.bool b) s) :
    wpAny (model prog w) A (richCompare .Eq (.ref x) (.ref y)) Q E s := by
  subst hb
  simp only [richCompare, cmpInfo_Eq, oneThing_ref]
  refine wpAny_holding (wpAny_bind (wpAny_cRoomFor hu ?_))
  refine wpAny_bind (I.type.here ?_)
  refine wpAny_bind (J.type.here ?_)
  rw [if_neg (by simp)]
  by_cases hxy : x = y
  · subst hxy
    refine wpAny_bind (wpAny_pure ?_)
    simp only [decide_true] at hq
    repeat (first | with_reducible refine try_eq_same X I e ?_ | wp_step)
    exact hq
  · rw [decide_eq_false hxy] at hq
    refine wpAny_bind (wpAny_pure ?_)
    repeat (first | with_reducible refine try_eq_other X I J e hxy hx hy hc ?_ | with_reducible refine try_eq_other X J I e (Ne.symm hxy) hy hx hd ?_ | with_reducible refine wpAny_isSame_ref_other hxy hx hy (by rw [hc]; intro z; cases z) ?_ | wp_step)
    rw [hc, hd]
    exact wpAny_pure (wpAny_pure hq)
theorem rc_ne {b : Bool} {Q : Value → Shared → Prop} (X : K.In s.heap) (I : PySem.W.InstAt s.heap x ox C od) (J : PySem.W.InstAt s.heap y oy C od') (e : EqC K C) (hx : s.heap.get? x = some ox) (hy : s.heap.get? y = some oy) (hc : ox.cls = .ref C) (hd : oy.cls = .ref C) (hu : A.units + 1 < cLine) (hb : b = !decide (x = y)) (hq : Q (.bool b) s) :
    wpAny (model prog w) A (richCompare .NotEq (.ref x) (.ref y)) Q E s := by
  subst hb
  have hu0 : A.units < cLine := Nat.lt_of_succ_lt hu
  simp only [richCompare, cmpInfo_NotEq, oneThing_ref]
  refine wpAny_holding (wpAny_bind (wpAny_cRoomFor hu0 ?_))
  refine wpAny_bind (I.type.here ?_)
  refine wpAny_bind (J.type.here ?_)
  rw [if_neg (by simp)]
  by_cases hxy : x = y
  · subst hxy
    refine wpAny_bind (wpAny_pure ?_)
    simp only [decide_true, Bool.not_true] at hq
    repeat (first | with_reducible refine try_ne_same X I e hu ?_ | wp_step)
    exact hq
  · rw [decide_eq_false hxy] at hq
    refine wpAny_bind (wpAny_pure ?_)
    repeat (first | with_reducible refine try_ne_other X I J e hxy hx hy hc hu ?_ | with_reducible refine try_ne_other X J I e (Ne.symm hxy) hy hx hd hu ?_ | with_reducible refine wpAny_isSame_ref_other hxy hx hy (by rw [hc]; intro z; cases z) ?_ | wp_step)
    rw [hc, hd]
    exact wpAny_pure (wpAny_pure hq)
end
section
variable {X : Cx} {g : Gb}
def rIns (C : Addr) (neg : Bool) : R2 := fun x y H Q => ∃ a b dx dy fs gs, x = .ref a ∧ y = .ref b ∧ H a = some (.ins C dx fs) ∧ H b = some (.ins C dy gs) ∧ Q (.bl (if neg = true then !decide (a = b) else decide (a = b))) H
theorem ins_obj {pins : List (Addr × Obj)} {σ : L2.St} {H : Hp} {s : Shared} {a C dx : Addr} {fs : List (Str × V)} (I : Inv X pins σ H s) (e : H a = some (.ins C dx fs)) : ∃ o od, s.heap.get? a = some o ∧ o.cls = .ref C ∧ PySem.W.InstAt s.heap a o C od := by
  obtain ⟨mA, O, _⟩ := ins_get I.hok e
  obtain ⟨od, J, _⟩ := O.look
  exact ⟨_, od, O.obj, rfl, J⟩
theorem op_eqIns {C : Addr} (e : EqC X.K C) (hu : X.A.units + 1 < cLine) : OpR X (compareOp .Eq) (rIns C false) := by
  rintro pins s σ H x y v u Q I rx ry ⟨a, b, dx, dy, fs, gs, rfl, rfl, ha, hb, q⟩
  obtain rfl : v = Value.ref a := rx
  obtain rfl : u = Value.ref b := ry
  obtain ⟨o, od, h1, h2, h3⟩ := ins_obj I ha
  obtain ⟨o', od', k1, k2, k3⟩ := ins_obj I hb
  exact rc_eq I.kIn h3 k3 e h1 k1 h2 k2 (Nat.lt_of_succ_lt hu) rfl ⟨.bl _, H, I, rfl, q⟩
theorem op_neIns {C : Addr} (e : EqC X.K C) (hu : X.A.units + 1 < cLine) : OpR X (compareOp .NotEq) (rIns C true) := by
  rintro pins s σ H x y v u Q I rx ry ⟨a, b, dx, dy, fs, gs, rfl, rfl, ha, hb, q⟩
  obtain rfl : v = Value.ref a := rx
  obtain rfl : u = Value.ref b := ry
  obtain ⟨o, od, h1, h2, h3⟩ := ins_obj I ha
  obtain ⟨o', od', k1, k2, k3⟩ := ins_obj I hb
  exact rc_ne I.kIn h3 k3 e h1 k1 h2 k2 hu rfl ⟨.bl _, H, I, rfl, q⟩
def eqI (c : Str) (S : Sto) (x y : D) : Option D := match insF c S x, insF c S y, x, y with
  | some _, some _, .obj a, .obj b => some (.bl (a == b))
  | _, _, _, _ => none
def neI (c : Str) (S : Sto) (x y : D) : Option D := match insF c S x, insF c S y, x, y with
  | some _, some _, .obj a, .obj b => some (.bl (!(a == b)))
  | _, _, _, _ => none
theorem insPP {W : Wo} {H : Hp} {S : Sto} {c : Str} {C : Addr} {x : D} {v : V} {fs : List (Str × D)} (st : g.Sta W H S) (hc : g.mg c = some (.ref C)) (r : RepP g.K g.mg W H x v) (e : insF c S x = some fs) : ∃ l a dx fv, x = .obj l ∧ v = .ref a ∧ W.m[l]? = some a ∧ H a = some (.ins C dx fv) := by
  have r' : g.Rep W H x v := by
    cases x with
    | obj l =>
      obtain ⟨a, h1, h2⟩ := r.obj
      simp only [Rep]
      exact ⟨a, h1, h2⟩
    | _ => cases e
  obtain ⟨l, a, dx, fv, C', h1, h2, h3, h4, h5, h6, _⟩ := insP st r' e
  rw [hc] at h5
  cases h5
  exact ⟨l, a, dx, fv, h1, h2, h3, h6⟩
theorem nodup_at {W : Wo} {H : Hp} {S : Sto} {l l' : Nat} {a b : Addr} (st : g.Sta W H S) (h1 : W.m[l]? = some a) (h2 : W.m[l']? = some b) : decide (a = b) = (l == l') := by
  obtain ⟨a1, a2⟩ := List.getElem?_eq_some_iff.mp h1
  obtain ⟨b1, b2⟩ := List.getElem?_eq_some_iff.mp h2
  by_cases h : l = l'
  · subst h
    rw [h1] at h2
    cases h2
    simp
  · have : a ≠ b := fun z => h ((List.getElem_inj (h₀ := a1) (h₁ := b1) st.nd).mp (a2.trans (z.trans b2.symm)))
    rw [decide_eq_false this, beq_eq_false_iff_ne.mpr h]
theorem o_eqIns {c : Str} {C : Addr} (hc : g.mg c = some (.ref C)) (e : EqC X.K C) (hu : X.A.units + 64 < cLine) : OpD g X (compareOp .Eq) (rlR g) (eqI c) := ⟨_, op_eqIns e (by omega), fun W H S a b z x y Q st ra rb ez k => by
  unfold eqI at ez
  cases f1 : insF c S a with
  | none => rw [f1] at ez; cases ez
  | some fs1 =>
    cases f2 : insF c S b with
    | none => rw [f1, f2] at ez; cases ez
    | some fs2 =>
      obtain ⟨l, a', dx, fv, e1, rfl, m1, i1⟩ := insPP st hc ra f1
      obtain ⟨l', b', dy, gv, e2, rfl, m2, i2⟩ := insPP st hc rb f2
      subst e1 e2
      rw [f1, f2] at ez
      cases ez
      refine ⟨a', b', dx, dy, fv, gv, rfl, rfl, i1, i2, k _ W H Ext.refl st ?_⟩
      simp only [rlR, Rep, Bool.false_eq_true, if_false, nodup_at st m1 m2]⟩
theorem o_neIns {c : Str} {C : Addr} (hc : g.mg c = some (.ref C)) (e : EqC X.K C) (hu : X.A.units + 64 < cLine) : OpD g X (compareOp .NotEq) (rlR g) (neI c) := ⟨_, op_neIns e (by omega), fun W H S a b z x y Q st ra rb ez k => by
  unfold neI at ez
  cases f1 : insF c S a with
  | none => rw [f1] at ez; cases ez
  | some fs1 =>
    cases f2 : insF c S b with
    | none => rw [f1, f2] at ez; cases ez
    | some fs2 =>
      obtain ⟨l, a', dx, fv, e1, rfl, m1, i1⟩ := insPP st hc ra f1
      obtain ⟨l', b', dy, gv, e2, rfl, m2, i2⟩ := insPP st hc rb f2
      subst e1 e2
      rw [f1, f2] at ez
      cases ez
      refine ⟨a', b', dx, dy, fv, gv, rfl, rfl, i1, i2, k _ W H Ext.refl st ?_⟩
      simp only [rlR, Rep, if_true, nodup_at st m1 m2]⟩
end
end DL

set_option Elab.async false
set_option linter.all false
set_option maxRecDepth 100000
set_option maxHeartbeats 2000000
/-! DL, part Z: short names for what the generator prints. -/
namespace DL
open PySem PySem.Spec PyProof.Rows L2 NdefX LamX
def sBad : Sv := fun _ _ => .bad
def eBad : Ev := fun _ _ => .bad
section
variable {X : Cx} {g : Gb} {Wx : WX} {W₀ : Wo} {H₀ : Hp} {k : Nat} {x : Str} {pos : Pos} {e : Expr} {P : Rl D V}
theorem s_bad {st : Stmt} : PS X st (sd g Wx W₀ H₀ sBad) := ⟨fun pins s σ H D I ⟨W, ρ, S, st, en, ex, h⟩ => h.elim⟩
theorem ss_bad {st : List Stmt} : PSs X st (sd g Wx W₀ H₀ sBad) := ⟨fun pins s σ H D I ⟨W, ρ, S, st, en, ex, h⟩ => h.elim⟩
theorem e_bad : PE X e (rd g Wx H₀ P eBad) := ⟨fun pins s σ H Q I ⟨W, ρ, S, st, en, h⟩ => h.elim⟩
theorem d_gint {i : Int} (hg : Gl X x) (hm : ∃ t, X.mg x = some (.int i t)) (hd : (x == ("__debug__" : Str)) = false := by decide) : PE X (.Name x pos) (rd g Wx H₀ (rlR g) (kc (.int i))) := by
  obtain ⟨t, hm⟩ := hm
  exact d_c (v := .int i) (pe_glob hg hm ⟨_, rfl⟩ hd) fun _ _ => by simp only [Rep]
theorem d_gstr {z : Str} {y : List Nat} (hg : Gl X x) (hm : ∃ t, X.mg x = some (.str z t)) (e : z.cps.toList = y) (h : sokB y = true) (hd : (x == ("__debug__" : Str)) = false := by decide) : PE X (.Name x pos) (rd g Wx H₀ (rlR g) (kc (.str y))) := by
  obtain ⟨t, hm⟩ := hm
  refine d_c (v := .str z) (pe_glob hg hm ⟨_, rfl⟩ hd) fun _ _ => ?_
  simp only [Rep]
  refine ⟨?_, sok_of h⟩
  rw [← e, strV, Array.toArray_toList]
/-! ### is -/
def isNonOp : Sto → D → D → Option D := fun S a b => match b with | .non => isNonS S a | _ => none
def notNonOp : Sto → D → D → Option D := fun S a b => match b with | .non => notNonS S a | _ => none
def isBlOp : Sto → D → D → Option D := fun _ a b => match a, b with | .bl x, .bl y => some (.bl (x == y)) | _, _ => none
def notBlOp : Sto → D → D → Option D := fun _ a b => match a, b with | .bl x, .bl y => some (.bl (!(x == y))) | _, _ => none
theorem o_is : OpD g X (compareOp .Is) (rlR g) isNonOp := o_isNon
theorem o_nis : OpD g X (compareOp .IsNot) (rlR g) notNonOp := o_notNon
theorem o_isb : OpD g X (compareOp .Is) (rlR g) isBlOp := o_isBl
theorem o_nisb : OpD g X (compareOp .IsNot) (rlR g) notBlOp := o_notBl
/-! ### built-ins -/
theorem b_abs : bootBuiltins "abs" = some (.builtin "abs") := by decide +kernel
theorem b_max : bootBuiltins "max" = some (.builtin "max") := by decide +kernel
theorem b_min : bootBuiltins "min" = some (.builtin "min") := by decide +kernel
theorem b_divmod : bootBuiltins "divmod" = some (.builtin "divmod") := by decide +kernel
theorem b_len : bootBuiltins "len" = some (.builtin "len") := by decide +kernel
theorem b_all : bootBuiltins "all" = some (.builtin "all") := by decide +kernel
theorem b_any : bootBuiltins "any" = some (.builtin "any") := by decide +kernel
theorem b_sum : bootBuiltins "sum" = some (.builtin "sum") := by decide +kernel
theorem b_int : bootBuiltins "int" = some (.type "int") := by decide +kernel
theorem b_str : bootBuiltins "str" = some (.type "str") := by decide +kernel
theorem b_bool : bootBuiltins "bool" = some (.type "bool") := by decide +kernel
theorem b_list : bootBuiltins "list" = some (.type "list") := by decide +kernel
theorem b_tuple : bootBuiltins "tuple" = some (.type "tuple") := by decide +kernel
theorem b_dict : bootBuiltins "dict" = some (.type "dict") := by decide +kernel
end
/-! ### a def's frame, a lambda's, a comprehension's -/
section
variable {P : Program} {w : World} {K : PySem.W.Frag} {mg : Str → Option Value} {base : Heap} {N : List Str} {qual : Str} {scope : Scope} {f : Addr} {cd : Value} {A : Around} {outer : List PySem.Env} {s : Shared} {H : Hp} {E : XK}
theorem tkF : Takes (cxOf (L2.CX P w) P w K mg base N qual scope f cd A outer s H E) (fun cls d _ H' => E cls d H') := takes_of rfl rfl rfl rfl
theorem owF : PassesOwn (model P w) (cxOf (L2.CX P w) P w K mg base N qual scope f cd A outer s H E).A (cxOf (L2.CX P w) P w K mg base N qual scope f cd A outer s H E).env (cxOf (L2.CX P w) P w K mg base N qual scope f cd A outer s H E).xe := PassesOwn.leaving
theorem tkL {Fn : NF} : Takes (ncx (L2.CX P w) P w K mg base N Fn f A outer s H E) (fun cls d _ H' => E cls d H') := takes_of rfl rfl rfl rfl
theorem owL {Fn : NF} : PassesOwn (model P w) (ncx (L2.CX P w) P w K mg base N Fn f A outer s H E).A (ncx (L2.CX P w) P w K mg base N Fn f A outer s H E).env (ncx (L2.CX P w) P w K mg base N Fn f A outer s H E).xe := PassesOwn.leaving
theorem codeR {x qual : Str} {params : Arguments} {body : List Stmt} {scope : Scope} {p : Str × Option Str} {fd : FuncData} (F : FunD K x qual params body scope [] [] (He.fAd K p) fd) : fd.code = .ref (He.codeOf K p) := by
  obtain ⟨oc, od, dV, kV, doc, pm, an, cdv, ct, osl, rfl, lk, hcd, _, _⟩ := F.ex
  obtain ⟨c, rfl⟩ := He.codeIn_ref hcd
  rw [He.codeOf_eq lk rfl]
theorem tkB {X : Cx} : Takes X Wn := L2.takes0
end
/-! ### list(range(..)) -/
def lstRg (S : Sto) (xs : List D) : Option D := (rangeS xs).bind fun ds => if ds.length ≤ zLine then some (.lst ds) else none
section
variable {X : Cx} {g : Gb} {Wx : WX} {W₀ : Wo} {H₀ : Hp} {a b : Expr} {fa fb : Ev} {p p2 pos pos2 : Pos}
theorem reps_ints {W : Wo} {H : Hp} (f : Nat → Int) : ∀ l : List Nat, g.Reps W H (l.map fun k => .int (f k)) (l.map fun k => V.int (f k))
  | [] => by simp only [List.map_nil, Reps]
  | k :: l => by simp only [List.map_cons, Reps]; exact ⟨_, _, rfl, by simp only [Rep], reps_ints f l⟩
theorem reps_upto {W : Wo} {H : Hp} (lo hi : Int) : g.Reps W H (upto lo (hi - lo).toNat) (rgV lo hi) := reps_ints _ _
theorem d_lstRg1 (hc : X.calm = true) (hg : Gl X "list") (hm : X.mg "list" = none) (hg2 : Gl X "range") (hm2 : X.mg "range" = none) (ha : PE X a (rd g Wx H₀ (rlR g) fa))
    (na : starEach [a] X.env = (false, eval a X.env) :: starEach [] X.env := by rfl) (na2 : starEach [.Call (.Name "range" p2) [a] [] pos2] X.env = (false, eval (.Call (.Name "range" p2) [a] [] pos2) X.env) :: starEach [] X.env := by rfl) :
    PE X (.Call (.Name "list" p) [.Call (.Name "range" p2) [a] [] pos2] [] pos) (rd g Wx H₀ (rlF g) (eN lstRg (eCons fa eNil))) :=
  (pe_listRg hc hg hm (prg_1 hg2 hm2 ha na) na2).imp fun σ H Q ⟨W, ρ, S, st, en, h⟩ => by
    have h : rdp g Wx (rlF g) σ W H (((fa ρ S).bind fun x S1 => (eNil ρ S1).bind fun xs S2 => .ok (x :: xs) S2).bind fun xs S1 => opt (lstRg S1 xs) S1) Q := h
    rw [Res.bind_assoc] at h
    refine step monoF st en h fun x W1 H1 S1 d e1 s1 n1 p1 h1 => ?_
    have h1 : rdp g Wx (rlF g) σ W1 H1 (opt (lstRg S1 [d]) S1) Q := h1
    obtain ⟨z, ez, h2⟩ := h1.opt
    unfold lstRg at ez
    cases er : rangeS [d] with
    | none => rw [er] at ez; cases ez
    | some ds =>
      rw [er] at ez
      have ez : (if ds.length ≤ zLine then some (D.lst ds) else none) = some z := ez
      split at ez
      · rename_i hl
        cases ez
        cases d with
        | int i =>
          simp only [rangeS] at er
          split at er
          · rename_i hb
            cases er
            refine ⟨i, Rep.int (show g.Rep W1 H1 (.int i) x from p1), ⟨by omega, by omega, hb.2, hb.1, ?_⟩, fun q hq => ?_⟩
            · simp [upto] at hl
              show (i - 0).toNat ≤ _
              simp
              exact hl
            · obtain ⟨e, s, r⟩ := newLst s1 (show g.Reps W1 H1 (upto 0 i.toNat) (rgV 0 i) from by have := reps_upto (g := g) (W := W1) (H := H1) 0 i; simpa using this) hq
              exact h2 _ _ _ e s r
          · cases er
        | _ => cases er
      · cases ez
theorem d_lstRg2 (hc : X.calm = true) (hg : Gl X "list") (hm : X.mg "list" = none) (hg2 : Gl X "range") (hm2 : X.mg "range" = none) (ha : PE X a (rd g Wx H₀ (rlR g) fa)) (hb : PE X b (rd g Wx H₀ (rlR g) fb))
    (na : starEach [a, b] X.env = (false, eval a X.env) :: starEach [b] X.env := by rfl) (nb : starEach [b] X.env = (false, eval b X.env) :: starEach [] X.env := by rfl) (hp : (backTo pos2 (starEach [b] X.env)).any (·.1) = false := by rfl)
    (na2 : starEach [.Call (.Name "range" p2) [a, b] [] pos2] X.env = (false, eval (.Call (.Name "range" p2) [a, b] [] pos2) X.env) :: starEach [] X.env := by rfl) :
    PE X (.Call (.Name "list" p) [.Call (.Name "range" p2) [a, b] [] pos2] [] pos) (rd g Wx H₀ (rlF g) (eN lstRg (eCons fa (eCons fb eNil)))) :=
  (pe_listRg hc hg hm (prg_2 hg2 hm2 ha hb na nb hp) na2).imp fun σ H Q ⟨W, ρ, S, st, en, h⟩ => by
    have h : rdp g Wx (rlF g) σ W H (((fa ρ S).bind fun x S1 => ((fb ρ S1).bind fun y S2 => (eNil ρ S2).bind fun xs S2 => .ok (y :: xs) S2).bind fun xs S2 => .ok (x :: xs) S2).bind fun xs S1 => opt (lstRg S1 xs) S1) Q := h
    rw [Res.bind_assoc] at h
    refine step monoF st en h fun x W1 H1 S1 d e1 s1 n1 p1 h1 => ?_
    rw [Res.bind_assoc, Res.bind_assoc] at h1
    refine step monoF s1 n1 h1 fun y W2 H2 S2 d2 e2 s2 n2 p2 h1 => ?_
    have h1 : rdp g Wx (rlF g) σ W2 H2 (opt (lstRg S2 [d, d2]) S2) Q := h1
    obtain ⟨z, ez, h2⟩ := h1.opt
    unfold lstRg at ez
    cases er : rangeS [d, d2] with
    | none => rw [er] at ez; cases ez
    | some ds =>
      rw [er] at ez
      have ez : (if ds.length ≤ zLine then some (D.lst ds) else none) = some z := ez
      split at ez
      · rename_i hl
        cases ez
        cases d with
        | int i =>
          cases d2 with
          | int j =>
            simp only [rangeS] at er
            split at er
            · rename_i hb
              cases er
              refine ⟨i, j, Rep.int (show g.Rep W1 H1 (.int i) x from p1), Rep.int (show g.Rep W2 H2 (.int j) y from p2), ⟨hb.2.1, hb.1, hb.2.2.2, hb.2.2.1, ?_⟩, fun q hq => ?_⟩
              · simpa [upto] using hl
              · obtain ⟨e, s, r⟩ := newLst s2 (reps_upto (g := g) (W := W2) (H := H2) i j) hq
                exact h2 _ _ _ e s r
            · cases er
          | _ => cases er
        | _ => cases er
      · cases ez
end
/-! ### a op b op' c as a test -/
def tChn (o o' : Sto → D → D → Option D) (a b c : Ev) : Tv := tB (eChn o o' a b c)
section
variable {X : Cx} {g : Gb} {Wx : WX} {W₀ : Wo} {H₀ : Hp} {a b c : Expr} {fa fb fc : Ev} {pos : Pos}
theorem d_tchain {op op' : CmpOp} {o o' : Sto → D → D → Option D} (ho : OpD g X (compareOp op) (rlR g) o) (ho' : OpD g X (compareOp op') (rlR g) o') (ha : PE X a (rd g Wx H₀ (rlP g) fa)) (hb : PE X b (rd g Wx H₀ (rlP g) fb)) (hc : PE X c (rd g Wx H₀ (rlP g) fc))
    (h : ∀ {r r' : R2} {ta tb tc : TE}, OpR X (compareOp op) r → OpR X (compareOp op') r' → PE X a ta → PE X b tb → PE X c tc → PT X (.Compare a [op, op'] [b, c] pos) (tTest (tChain r r' ta tb tc))) :
    PT X (.Compare a [op, op'] [b, c] pos) (rd g Wx H₀ rlE (tChn o o' fa fb fc)) := by
  obtain ⟨r, hr, im⟩ := ho
  obtain ⟨r', hr', im'⟩ := ho'
  refine (h hr hr' ha hb hc).imp fun σ H Q ⟨W, ρ, S, st, en, h⟩ => ?_
  have h : rdp g Wx rlE σ W H (((fa ρ S).bind fun x S1 => (fb ρ S1).bind fun y S2 => (opt ((o S2 x y).bind bV) S2).bind fun k S2 =>
    if k = true then (fc ρ S2).bind fun z S3 => opt (o' S3 y z) S3 else .ok (.bl false) S2).bind fun x S1 => opt (bV x) S1) Q := h
  rw [Res.bind_assoc] at h
  refine step monoE st en h fun x W1 H1 S1 d e1 s1 n1 p1 h1 => ?_
  rw [Res.bind_assoc] at h1
  refine step monoE s1 n1 h1 fun y W2 H2 S2 d2 e2 s2 n2 p2 h2 => ?_
  cases ez : o S2 d d2 with
  | none => rw [ez] at h2; exact h2.elim
  | some z =>
    rw [ez] at h2
    cases ek : bV z with
    | none =>
      rw [show (some z).bind bV = bV z from rfl, ek] at h2
      exact h2.elim
    | some k =>
      rw [show (some z).bind bV = bV z from rfl, ek] at h2
      refine im W2 H2 S2 d d2 z x y _ s2 (RepP.ext e2 s1 p1) p2 ez fun v W' H' e' s' p' => ?_
      rw [bV_eq ek] at p'
      refine ⟨k, Rep.bl (show g.Rep W' H' (.bl k) v from p'), ?_⟩
      have h2' := h2.mv monoE e'
      cases k with
      | false => exact ⟨false, rfl, h2' _ W' H' Ext.refl s' rfl⟩
      | true =>
        have h2' : rdp g Wx rlE σ W' H' (((fc ρ S2).bind fun z S3 => opt (o' S3 d2 z) S3).bind fun x S1 => opt (bV x) S1) Q := h2'
        rw [Res.bind_assoc] at h2'
        refine step monoE s' (n2.ext e' s2) h2' fun u W3 H3 S3 d3 e3 s3 n3 p3 h3 => ?_
        cases ez2 : o' S3 d2 d3 with
        | none => rw [ez2] at h3; exact h3.elim
        | some z2 =>
          rw [ez2] at h3
          obtain ⟨k2, ek2, h4⟩ := h3.opt
          refine im' W3 H3 S3 d2 d3 z2 y u _ s3 (RepP.ext e3 s' (RepP.ext e' s2 p2)) p3 ez2 fun v2 W4 H4 e4 s4 p4 => ?_
          rw [bV_eq ek2] at p4
          exact ⟨k2, Rep.bl (show g.Rep W4 H4 (.bl k2) v2 from p4), h4 k2 W4 H4 e4 s4 rfl⟩
end
theorem room_un {j : Nat} {A : Around} (r : Room j A) : A.units + 64 < cLine := r.units
theorem room_un65 {j : Nat} {A : Around} (r : Room j A) : A.units + 65 < cLine := by have := r.un; omega
theorem room_un1 {j : Nat} {A : Around} (r : Room j A) : A.units + 1 < cLine := by have := r.un; omega
end DL

set_option Elab.async false
set_option linter.all false
set_option maxRecDepth 100000
set_option maxHeartbeats 2000000
/-! DL, part Ap: append to a list of the frame's own; sorted of texts; count of numbers; gcd. -/
namespace DL
open PySem PySem.Spec PyProof.Rows L2 NdefX LamX
/-- x.append(e), x the frame's own -/
def sAppK (i : Nat) (ρ : DL.Env) (ds : List D) (y : D) (S : Sto) : Res Fl := if ds.length < zLine then .ok (.nx (ρ.set i (.ow (.lst (ds ++ [y]))))) S else .bad
def sAppL (i : Nat) (f : Ev) (ρ : DL.Env) (S : Sto) : Option Slot → Res Fl
  | some (.ow (.lst ds)) => (f ρ S).bind (sAppK i ρ ds)
  | _ => .bad
def sApp (i : Nat) (f : Ev) : Sv := fun ρ S => sAppL i f ρ S ρ[i]?
section
variable {X : Cx} {g : Gb} {Wx : WX} {W₀ : Wo} {H₀ : Hp} {e : Expr} {f : Ev} {i : Nat} {x : Str} {p1 apos cpos pos : Pos}
theorem Reps.snoc {W : Wo} {H : Hp} {y : D} {v : V} (hy : g.Rep W H y v) : ∀ {ds : List D} {xs : List V}, g.Reps W H ds xs → g.Reps W H (ds ++ [y]) (xs ++ [v])
  | [], xs, h => by
    simp only [Reps] at h
    subst h
    simp only [List.nil_append, Reps]
    exact ⟨v, [], rfl, hy, rfl⟩
  | d :: ds, xs, h => by
    simp only [Reps] at h
    obtain ⟨u, r, rfl, h1, h2⟩ := h
    simp only [List.cons_append, Reps]
    exact ⟨u, _, rfl, h1, Reps.snoc hy h2⟩
theorem s_app (ho : PE X (.Name x p1) (tVar i)) (he : PE X e (rd g Wx H₀ (rlR g) f))
    (hbase : attributeBase (.Name x p1) "append" X.env (eval (.Name x p1) X.env) = eval (.Name x p1) X.env := by rfl)
    (hfew : ((backTo cpos (starEach [e] X.env)).all (fun x => !x.1) && (backToKw cpos (keywordEach [] X.env)).all (fun x => x.1.isSome)
      && decide ([e].length + ([] : List Keyword).length + (if ([] : List Keyword).isEmpty then 0 else 1) < 30)) = true := by rfl)
    (hline : (apos.endLine == cpos.line) = true := by rfl) (hs : starEach [e] X.env = (false, eval e X.env) :: starEach [] X.env := by rfl) (hplain : (backTo cpos (starEach [] X.env)).any (·.1) = false := by rfl)
    (hsw : swapsWith (.Call (.Attribute (.Name x p1) "append" apos) [e] [] cpos) none pos.line X.env = pure false := by rfl) :
    PS X (.Expr (.Call (.Attribute (.Name x p1) "append" apos) [e] [] cpos) pos) (sd g Wx W₀ H₀ (sApp i f)) := by
  refine (ps_expr (pe_bm PySem.F.plainAttrs_list PySem.F.slot_list_append PySem.F.type_list_append mt_append ho (pa_cons he pa_nil hs) hbase hfew hline hs hplain) hsw).imp fun D σ H ⟨W, ρ, S, st, en, ex, h⟩ => ?_
  have h : sdp g Wx W₀ H₀ D W H (sAppL i f ρ S ρ[i]?) := h
  cases er : ρ[i]? with
  | none => rw [er] at h; exact h.elim
  | some s =>
    rw [er] at h
    cases s with
    | ow d =>
      cases d with
      | lst ds =>
        have h : sdp g Wx W₀ H₀ D W H ((f ρ S).bind (sAppK i ρ ds)) := h
        obtain ⟨ov, hs1, q, rfl, hq0, hqR, hqm, hat⟩ := en.get er
        refine ⟨V.ref q, hs1, ?_⟩
        obtain ⟨xs, hxs, rxs⟩ := hat
        refine ⟨.inl ⟨rfl, xs, .of hxs⟩, sstep st en ex h fun y W1 H1 S1 yd e1 s1 n1 x1 p1 h1 => ?_⟩
        unfold sAppK at h1
        by_cases hz : ds.length < zLine
        · rw [if_pos hz] at h1
          obtain ⟨ov1, hs2, q', hq', hq0', hqR', hqm', hat'⟩ := n1.get er
          rw [hs1] at hs2
          cases hs2
          cases hq'
          obtain ⟨xs', hxs', rxs'⟩ := hat'
          have hlen : xs'.length < sizeLine := by rw [rxs'.len, sizeLine_eq]; exact hz
          refine ⟨q, xs', y, rfl, rfl, hxs', hlen, h1 _ W1 _ (s1.put hxs' trivial hqR' hqm') (n1.ownPut er hs1 hxs' trivial ⟨_, upd_same, Reps.lo (putLo hqR') (Reps.snoc p1 rxs')⟩) (x1.put hq0') (putLo hqR')⟩
        · rw [if_neg hz] at h1
          exact h1.elim
      | _ => exact h.elim
    | _ => exact h.elim
end
/-! ### sorted of texts -/
theorem ltCps_lt : ∀ x y : List Nat, ltCps x y = decide (x < y)
  | [], [] => by simp [ltCps]
  | [], _ :: _ => by simp [ltCps]
  | _ :: _, [] => by simp [ltCps]
  | a :: r, b :: t => by
    rw [ltCps, ltCps_lt r t]
    by_cases h1 : a < b
    · simp [List.cons_lt_cons_iff, h1]
    · by_cases h2 : a = b
      · simp [List.cons_lt_cons_iff, h2]
      · simp [List.cons_lt_cons_iff, h1, h2]
theorem rising_pw : ∀ (ys : List Str) (p : Str), PyProof.Rows.risingS p ys = true → (p.cps.toList :: ys.map fun s => s.cps.toList).Pairwise (· ≤ ·)
  | [], p, _ => by simp
  | x :: r, p, h => by
    unfold PyProof.Rows.risingS at h
    rw [ltCps_lt] at h
    simp only [Bool.and_eq_true, Bool.not_eq_true', decide_eq_false_iff_not] at h
    have h1 : p.cps.toList ≤ x.cps.toList := List.not_lt.mp h.1
    have ih := rising_pw r x h.2
    refine List.pairwise_cons.mpr ⟨fun y hy => ?_, ih⟩
    rcases List.mem_cons.mp hy with rfl | hy
    · exact h1
    · exact List.le_trans h1 ((List.pairwise_cons.mp ih).1 y hy)
theorem sorted_pw {ys : List Str} (h : PyProof.Rows.sortedS ys = true) : (ys.map fun s => s.cps.toList).Pairwise (· ≤ ·) := by
  cases ys with
  | nil => simp
  | cons x r => exact rising_pw r x h
def sortT (xs : List (List Nat)) : List (List Nat) := xs.mergeSort fun a b => decide (a ≤ b)
theorem sortT_perm {xs : List (List Nat)} : (sortT xs).Perm xs := List.mergeSort_perm _ _
theorem sortT_pw {xs : List (List Nat)} : (sortT xs).Pairwise (· ≤ ·) := by
  have h := List.pairwise_mergeSort (le := fun a b : List Nat => decide (a ≤ b)) (fun a b c h1 h2 => by
    simp only [decide_eq_true_eq] at h1 h2 ⊢
    exact List.le_trans h1 h2) (fun a b => by
    simp only [Bool.or_eq_true, decide_eq_true_eq]
    exact List.le_total a b) xs
  exact h.imp fun h => by simpa using h
theorem sortT_eq {xs ys : List (List Nat)} (p : ys.Perm xs) (h : ys.Pairwise (· ≤ ·)) : ys = sortT xs :=
  List.Perm.eq_of_pairwise (fun a b _ _ h1 h2 => List.le_antisymm h1 h2) h sortT_pw (p.trans sortT_perm.symm)
def sortedC (_ : Sto) : List D → Option D
  | [.lst ds] => (txs ds).bind fun xs => if xs.length < 64 then some (.lst ((sortT xs).map .str)) else none
  | _ => none
theorem reps_strs {g : Gb} {W : Wo} {H : Hp} : ∀ {xs : List (List Nat)}, (∀ b ∈ xs, sOk b) → g.Reps W H (xs.map D.str) (xs.map strV)
  | [], _ => by simp only [List.map_nil, Reps]
  | x :: xs, h => by
    simp only [List.map_cons, Reps]
    exact ⟨_, _, rfl, by simp only [Rep]; exact ⟨by simp [strV], h x List.mem_cons_self⟩, reps_strs fun b hb => h b (List.mem_cons_of_mem _ hb)⟩
theorem c_sorted {X : Cx} {g : Gb} (hK : X.K = g.K) : CallD g X (.builtin "sorted") (rlF g) sortedC := ⟨_, cr_sortedS, fun W H S ds z vs Q st r e k => by
  unfold sortedC at e
  split at e
  · obtain ⟨v, rfl, rv⟩ := r.one
    rename_i ds
    cases et : txs ds with
    | none => rw [et] at e; cases e
    | some xs =>
      rw [et] at e
      have e : (if xs.length < 64 then some (D.lst ((sortT xs).map .str)) else none) = some z := e
      split at e
      · rename_i hb
        cases e
        obtain ⟨a, us, rfl, h1, h2⟩ := rv.lst
        obtain ⟨rfl, hok⟩ := txs_rep et h2
        refine ⟨a, xs.map fun b => ⟨b.toArray⟩, rfl, ?_, by simpa using hb, fun ys p hp hs hn => ?_⟩
        · rw [List.map_map]
          exact .of h1
        · have hy : (ys.map fun s : Str => s.cps.toList) = sortT xs := by
            refine sortT_eq ?_ (sorted_pw hs)
            have := hp.map fun s : Str => s.cps.toList
            rw [List.map_map] at this
            have e2 : xs.map ((fun s : Str => s.cps.toList) ∘ fun b => ⟨b.toArray⟩) = xs := by
              conv => rhs; rw [← List.map_id xs]
              exact List.map_congr_left fun b _ => by simp
            rw [e2] at this
            exact this
          have hv : ys.map V.str = (sortT xs).map strV := by
            rw [← hy, List.map_map]
            exact List.map_congr_left fun s _ => by simp [strV]
          rw [hv]
          obtain ⟨e1, s1, f1⟩ := newLst st (reps_strs (g := g) (W := W) (H := H) (xs := sortT xs) fun b hb => hok b (sortT_perm.mem_iff.mp hb)) hn
          exact k _ _ _ e1 s1 f1
      · cases e
  · cases e⟩
/-! ### count of numbers -/
def intsOf : List D → Option (List Int)
  | [] => some []
  | .int i :: ds => (intsOf ds).map (i :: ·)
  | _ => none
theorem intsOf_rep {g : Gb} {W : Wo} {H : Hp} : ∀ {ds : List D} {ns : List Int} {vs : List V}, intsOf ds = some ns → g.Reps W H ds vs → vs = ns.map V.int
  | [], ns, vs, e, r => by cases e; simpa only [Reps, List.map_nil] using r
  | .int b :: ds, ns, vs, e, r => by
    simp only [Reps] at r
    obtain ⟨v, r', rfl, h1, h2⟩ := r
    simp only [intsOf] at e
    cases e2 : intsOf ds with
    | none => rw [e2] at e; cases e
    | some bs' =>
      rw [e2] at e
      cases e
      simp only [Rep] at h1
      rw [intsOf_rep e2 h2, h1]
      rfl
def countM (_ : Sto) (x : D) : List D → Option D
  | [.int k] => (match x with
    | .lst ds => (intsOf ds).map fun ns => .int (ns.count k : Nat)
    | _ => none)
  | _ => none
theorem m_count {X : Cx} {g : Gb} (hK : X.K = g.K) : MetD g X "list.count" (rlR g) countM := ⟨_, mt_lcount, fun W H S d ds z v vs Q st rv rs e k => by
  unfold countM at e
  split at e
  · obtain ⟨w, rfl, rw'⟩ := rs.one
    split at e
    · rename_i ds
      cases en : intsOf ds with
      | none => rw [en] at e; cases e
      | some ns =>
        rw [en] at e
        cases e
        obtain ⟨a, us, rfl, h1, h2⟩ := rv.lst
        have h3 := intsOf_rep en h2
        subst h3
        refine ⟨a, ns, _, rfl, by rw [rw'.int], .of h1, k _ W H Ext.refl st ?_⟩
        simp only [rlR, Rep]
    · cases e
  · cases e⟩
/-! ### gcd -/
def gcdC (_ : Sto) : List D → Option D
  | [.int i, .int j] => some (.int (Nat.gcd i.natAbs j.natAbs : Nat))
  | _ => none
theorem c_gcd {X : Cx} {g : Gb} : CallD g X (.builtin "math.gcd") (rlR g) gcdC := ⟨_, cr_gcd, fun W H S ds z vs Q st r e k => by
  unfold gcdC at e
  split at e
  · cases e
    obtain ⟨v, w, rfl, rv, rw'⟩ := r.two
    exact ⟨_, _, by rw [rv.int, rw'.int], k _ W H Ext.refl st (by simp only [rlR, Rep])⟩
  · cases e⟩
section
variable {X : Cx} {g : Gb} {Wx : WX} {H₀ : Hp} {e : Expr} {es : List Expr} {fs : Evs} {n : Nat} {p pos : Pos} {P : Rl D V} {x : Str} {id : String}
/-- a function of a module, by its name -/
theorem d_callBf {o : Sto → List D → Option D} (hP : Mono P) (hc : CallD g X (.builtin id) P o) (hg : Gl X x) (hm : X.mg x = some (.builtin id)) (ha : PA X (e :: es) (rd g Wx H₀ (rlQ g n) fs)) (hdb : (x == ("__debug__" : Str)) = false := by decide)
    (he : starEach (e :: es) X.env = (false, eval e X.env) :: starEach es X.env := by rfl) (hpl : (backTo pos (starEach es X.env)).any (·.1) = false := by rfl) : PE X (.Call (.Name x p) (e :: es) [] pos) (rd g Wx H₀ P (eN o fs)) := by
  obtain ⟨r, hr, im⟩ := hc
  exact (pe_callBfun hr hg hm ha hdb he hpl).imp fun σ H Q ⟨W, ρ, S, st, en, h⟩ => step hP st en h fun xs W1 H1 S1 ds e1 s1 n1 p1 h1 => by
    obtain ⟨z, ez, h2⟩ := h1.opt
    exact im W1 H1 S1 ds z xs Q s1 p1.1 ez h2
end
/-! ### a tuple of texts among the globals -/
def strsB : List Value → List Str → Bool
  | [], [] => true
  | .str y _ :: vs, z :: zs => decide (y = z) && strsB vs zs
  | _, _ => false
theorem strsB_ok : ∀ {vs : List Value} {zs : List Str}, strsB vs zs = true → Vals (zs.map V.str) vs
  | [], [], _ => .nil
  | v :: vs, z :: zs, h => by
    cases v with
    | str y t =>
      have h' : (decide (y = z) && strsB vs zs) = true := h
      rw [Bool.and_eq_true, decide_eq_true_eq] at h'
      obtain ⟨rfl, h2⟩ := h'
      exact .cons ⟨t, rfl⟩ (strsB_ok h2)
    | _ => cases h
  | [], _ :: _, h => by cases h
  | v :: _, [], h => by cases v <;> cases h
def TupS (K : PySem.W.Frag) (mg : Str → Option Value) (x : Str) (zs : List Str) : Prop := ∃ a, mg x = some (.ref a) ∧ KTup K a (zs.map V.str)
section
variable {X : Cx} {g : Gb} {Wx : WX} {H₀ : Hp} {x : Str} {pos : Pos}
theorem reps_tx {W : Wo} {H : Hp} : ∀ {zs : List Str} {ys : List (List Nat)}, zs.map (fun z => z.cps.toList) = ys → ys.all sokB = true → g.Reps W H (ys.map D.str) (zs.map V.str)
  | [], ys, e, _ => by subst e; simp only [List.map_nil, Reps]
  | z :: zs, ys, e, h => by
    subst e
    simp only [List.map_cons, List.all_cons, Bool.and_eq_true] at h
    simp only [List.map_cons, Reps]
    refine ⟨_, _, rfl, ?_, reps_tx rfl h.2⟩
    simp only [Rep]
    exact ⟨by simp [strV], sok_of h.1⟩
theorem d_gtup {zs : List Str} {ys : List (List Nat)} (hK : X.K = g.K) (hg : Gl X x) (hm : TupS X.K X.mg x zs) (e : zs.map (fun z => z.cps.toList) = ys) (h : ys.all sokB = true) (hd : (x == ("__debug__" : Str)) = false := by decide) :
    PE X (.Name x pos) (rd g Wx H₀ (rlR g) (kc (.tup (ys.map .str)))) := by
  obtain ⟨a, hm, hk⟩ := hm
  refine d_c (v := .ref a) (pe_glob hg hm rfl hd) fun _ _ => ?_
  simp only [Rep]
  exact ⟨a, _, rfl, .inr (by rw [← hK]; exact hk), reps_tx e h⟩
end
theorem b_sorted : bootBuiltins "sorted" = some (.builtin "sorted") := by decide +kernel
section
variable {X : Cx} {g : Gb} {Wx : WX} {H₀ : Hp} {a : Expr} {f : Ev} {pos : Pos}
theorem d_neg (h : PE X a (rd g Wx H₀ (rlP g) f)) : PE X (.UnaryOp .USub a pos) (rd g Wx H₀ (rlR g) (e1 negS f)) :=
  (pe_un un_neg h).imp fun σ H Q ⟨W, ρ, S, st, en, h⟩ => step monoR st en h fun x W1 H1 S1 d e1 s1 n1 p1 h1 => by
    obtain ⟨k, ek, h2⟩ := h1.opt
    cases d <;> simp only [negS, reduceCtorEq] at ek
    cases ek
    exact ⟨_, p1.int, h2 _ W1 H1 Ext.refl s1 (by simp only [rlR, Rep])⟩
end
end DL

set_option Elab.async false
set_option linter.all false
set_option maxRecDepth 100000
set_option maxHeartbeats 2000000
/-! DL, part Hd: the head's Hook with properties' getters. -/
namespace DL
open PySem PySem.Spec PyProof.Rows L2 He
/-- the getter of the class c's property n -/
def gpa (K : PySem.W.Frag) (c n : Str) : Addr := match PySem.W.recIn K (ma K (ga K c) n) "property" with
  | some (.ref g :: _) => g
  | _ => 0
/-- a getter: class, name, qualified name, parameters, body, scope -/
structure DefP where
  cls : Str
  name : Str
  qual : Str
  params : Arguments
  body : List Stmt
  scope : Scope
def DefP.val (d : DefP) : FnW := some (d.name, d.qual, d.params, .stmts d.body, d.scope, mainGlobals, [], builtinsNs)
def fnAt (K : PySem.W.Frag) (a : Addr) : FnW := match K.lookup a with
  | some ⟨_, _, .func fd, _⟩ => some (fd.name, fd.qualname, fd.params, fd.body, fd.scope, fd.globals, fd.closure, fd.builtins)
  | _ => none
def okP (K : PySem.W.Frag) (a : Addr) (q : Str) : Bool := PySem.W.keepIn K (.ref a) && (match K.lookup a with
  | some ⟨_, _, .func fd, _⟩ => PySem.W.codeIn K fd.code q && (dflB K fd.defaults [] && kwdB K fd.kwdefaults [])
  | _ => false)
theorem funP {K : PySem.W.Frag} {d : DefP} {a : Addr} (e : fnAt K a = d.val) (c : okP K a d.qual = true) : ∃ fd, FunD K d.name d.qual d.params d.body d.scope [] [] a fd := by
  obtain ⟨kp, c2⟩ := ba c
  unfold fnAt at e
  cases q : K.lookup a with
  | none =>
    rw [q] at c2
    cases c2
  | some o =>
    obtain ⟨oc, od, dt, osl⟩ := o
    rw [q] at c2 e
    cases dt with
    | func fd =>
      obtain ⟨n1, n2, n3, n4, n5, n6, n7, n8, n9, n10, n11, n12, n13, n14, n15⟩ := fd
      have e2 : (some (n1, n2, n3, n4, n5, n6, n7, n15) : FnW) = some (d.name, d.qual, d.params, .stmts d.body, d.scope, mainGlobals, [], builtinsNs) := e
      simp only [Option.some.injEq, Prod.mk.injEq] at e2
      obtain ⟨h1, h2, h3, h4, h5, h6, h7, h8⟩ := e2
      subst h1 h2 h3 h4 h5 h6 h7 h8
      have c3 : (PySem.W.codeIn K n13 d.qual && (dflB K n8 [] && kwdB K n9 [])) = true := c2
      obtain ⟨k1, k2⟩ := ba c3
      obtain ⟨k3, k4⟩ := ba k2
      exact ⟨_, ⟨oc, od, n8, n9, n10, n11, n12, n13, n14, osl, rfl, q, k1, dflB_ok k3, kwdB_ok k4⟩, kp⟩
    | _ => cases c2
/-- a property of the class -/
def propB (K : PySem.W.Frag) (c n : Str) : Bool := decide (PySem.W.findIn K (.ref (ga K c)) n = some (some (.ref (ma K (ga K c) n)))) &&
  (decide (PySem.W.specialIn K (.ref (ma K (ga K c) n)) "__get__" = some (some (.builtin "property.__get__"))) && (decide (PySem.W.takesIn K (.ref (ma K (ga K c) n)) = some true) && (match PySem.W.recIn K (ma K (ga K c) n) "property" with
    | some (.ref _ :: _) => true
    | _ => false)))
theorem propB_ok {K : PySem.W.Frag} {c n : Str} (h : propB K c n = true) : PropOf K (ga K c) n (ma K (ga K c) n) (gpa K c n) := by
  obtain ⟨h1, h⟩ := ba h
  obtain ⟨h2, h⟩ := ba h
  obtain ⟨h3, h4⟩ := ba h
  refine ⟨of_decide_eq_true h1, of_decide_eq_true h2, of_decide_eq_true h3, ?_⟩
  unfold gpa
  cases e : PySem.W.recIn K (ma K (ga K c) n) "property" with
  | none => rw [e] at h4; cases h4
  | some l =>
    rw [e] at h4
    cases l with
    | nil => cases h4
    | cons v r =>
      cases v with
      | ref a => exact ⟨r, rfl⟩
      | _ => cases h4
/-- == as objects have it -/
def eqcB (K : PySem.W.Frag) (c : Str) : Bool := decide (PySem.W.mroIn K (ga K c) (.type "object") = some true) && (decide (PySem.W.findIn K (.ref (ga K c)) "__eq__" = some (some (.builtin "object.__eq__"))) && decide (PySem.W.findIn K (.ref (ga K c)) "__ne__" = some (some (.builtin "object.__ne__"))))
theorem eqcB_ok {K : PySem.W.Frag} {c : Str} (h : eqcB K c = true) : EqC K (ga K c) := by
  obtain ⟨h1, h⟩ := ba h
  obtain ⟨h2, h3⟩ := ba h
  exact ⟨of_decide_eq_true h1, of_decide_eq_true h2, of_decide_eq_true h3⟩
/-! ### further facts -/
inductive Xf where
  | eqc (x : Str)
  | bf (x : Str) (i : String)
  | tps (x : Str) (zs : List Str)
  | ne (p q : Defn)
def xfB (K : PySem.W.Frag) : Xf → Bool
  | .eqc x => eqcB K x
  | .bf x i => decide (PySem.W.nsIn K mainGlobals x = some (some (.builtin i)))
  | .tps x zs => (match PySem.W.nsIn K mainGlobals x with
    | some (some (.ref a)) => (match K.lookup a with
      | some o => decide (o.cls = .type "tuple") && (match o.data with
        | .seq its _ => decide (its.size ≤ sizeLine) && strsB its.toList zs
        | _ => false)
      | none => false)
    | _ => false)
  | .ne p q => decide (tabOf K (codeOf K p) ≠ tabOf K (codeOf K q))
section
variable {K : PySem.W.Frag} {h : Heap} {mg : Str → Option Value}
theorem eqc_ok {x : Str} (c : xfB K (.eqc x) = true) : EqC K (ga K x) := eqcB_ok c
theorem bf_ok (X : K.In h) (G : h.Ns mainGlobals mg) {x : Str} {i : String} (c : xfB K (.bf x i) = true) : mg x = some (.builtin i) := PySem.W.mg_of X G (of_decide_eq_true c)
theorem ne_ok {p q : Defn} (c : xfB K (.ne p q) = true) : tabOf K (codeOf K p) ≠ tabOf K (codeOf K q) := of_decide_eq_true c
theorem tps_ok (X : K.In h) (G : h.Ns mainGlobals mg) {x : Str} {zs : List Str} (c : xfB K (.tps x zs) = true) : TupS K mg x zs := by
  have c : (match PySem.W.nsIn K mainGlobals x with
    | some (some (.ref a)) => (match K.lookup a with
      | some o => decide (o.cls = .type "tuple") && (match o.data with
        | .seq its _ => decide (its.size ≤ sizeLine) && strsB its.toList zs
        | _ => false)
      | none => false)
    | _ => false) = true := c
  cases e : PySem.W.nsIn K mainGlobals x with
  | none => rw [e] at c; cases c
  | some v =>
    rw [e] at c
    cases v with
    | none => cases c
    | some v =>
      cases v with
      | ref a =>
        have c : (match K.lookup a with
          | some o => decide (o.cls = .type "tuple") && (match o.data with
            | .seq its _ => decide (its.size ≤ sizeLine) && strsB its.toList zs
            | _ => false)
          | none => false) = true := c
        cases e2 : K.lookup a with
        | none => rw [e2] at c; cases c
        | some o =>
          rw [e2] at c
          obtain ⟨h1, h2⟩ := ba c
          cases e3 : o.data with
          | seq its n =>
            rw [e3] at h2
            obtain ⟨h3, h4⟩ := ba h2
            exact ⟨a, PySem.W.mg_of X G e, o, its, n, e2, of_decide_eq_true h1, e3, of_decide_eq_true h3, strsB_ok h4⟩
          | _ => rw [e3] at h2; cases h2
      | _ => cases c
end
/-! ### the Hook -/
def exP (ps : List DefP) (es : List Xf) (K : PySem.W.Frag) : Bool := (ps.all fun d => propB K d.cls d.name && okP K (gpa K d.cls d.name) d.qual) && es.all (xfB K)
abbrev AlP : Type := AlX × List FnW
def obsP (n : Nat) (fa : List Fa) (fn : List DefD) (ts : List Tab) (tf : List Defn) (ps : List DefP) (es : List Xf) (g : Addr → Option Obj) : AlP :=
  (obsX n fa fn ts tf (exP ps es) g, ps.map fun d => fnAt (frT g (asD g n)) (gpa (frT g (asD g n)) d.cls d.name))
def valP (fn : List DefD) (ts : List Tab) (ps : List DefP) (w : World) : AlP := (valX fn ts w, ps.map DefP.val)
structure SaysP (fa : List Fa) (fn : List DefD) (ts : List Tab) (tf : List Defn) (ps : List DefP) (es : List Xf) (w : World) (h : Heap) (K : PySem.W.Frag) : Prop where
  x : SaysX fa fn ts tf (exP ps es) w h K
  p : (ps.map fun d => fnAt K (gpa K d.cls d.name)) = ps.map DefP.val
def hookP (n : Nat) (fa : List Fa) (fn : List DefD) (ts : List Tab) (tf : List Defn) (ps : List DefP) (es : List Xf) : PySem.W.Hook where
  α := AlP
  obs := fun s => obsP n fa fn ts tf ps es s.heap.get?
  val := fun w => valP fn ts ps w
  says := fun w h => ∃ K : PySem.W.Frag, K.In h ∧ SaysP fa fn ts tf ps es w h K
  of := fun _ _ e => ⟨_, frT_in, ⟨saysX_of (congrArg (fun z : AlP => z.1) e), congrArg (fun z : AlP => z.2) e⟩⟩
  keeps := fun _ _ _ ⟨K, hK, c⟩ k => ⟨K, PySem.W.Frag.In.keeps hK k, ⟨⟨c.x.t, c.x.more, c.x.hd, c.x.out, fun p hp => k _ _ (c.x.empty p hp)⟩, c.p⟩⟩
theorem obsP_eq {n : Nat} {fa : List Fa} {fn : List DefD} {ts : List Tab} {tf : List Defn} {ps : List DefP} {es : List Xf} {g : Addr → Option Obj} {s : Shared} (h : ∀ a, g a = s.heap.get? a) : obsP n fa fn ts tf ps es g = (hookP n fa fn ts tf ps es).obs s := by
  have e : g = s.heap.get? := funext h
  rw [e] <;> rfl
section
variable {fa : List Fa} {fn : List DefD} {ts : List Tab} {tf : List Defn} {ps : List DefP} {es : List Xf} {w : World} {h : Heap} {K : PySem.W.Frag}
theorem SaysP.fact (c : SaysP fa fn ts tf ps es w h K) {f : Fa} (hf : f ∈ fa) : f.ok K = true := c.x.t.d.facts hf
theorem SaysP.defs (c : SaysP fa fn ts tf ps es w h K) {d : DefD} (hd : d ∈ fn) : ∃ fd, FunD K d.name d.qual d.params d.body d.scope (d.dvs K) (d.kws K) (fAd K d.at_) fd := SaysD.defs c.x.t.d hd
theorem SaysP.getters (c : SaysP fa fn ts tf ps es w h K) {d : DefP} (hd : d ∈ ps) : PropOf K (ga K d.cls) d.name (ma K (ga K d.cls) d.name) (gpa K d.cls d.name) ∧ ∃ fd, FunD K d.name d.qual d.params d.body d.scope [] [] (gpa K d.cls d.name) fd := by
  obtain ⟨h1, _⟩ := ba c.x.more
  obtain ⟨h2, h3⟩ := ba (List.all_eq_true.mp h1 d hd)
  refine ⟨propB_ok h2, funP ?_ h3⟩
  obtain ⟨i, hi, e⟩ := List.mem_iff_getElem.mp hd
  have e2 : (ps.map fun d => fnAt K (gpa K d.cls d.name))[i]? = (ps.map DefP.val)[i]? := by rw [c.p]
  rw [List.getElem?_map, List.getElem?_map, List.getElem?_eq_getElem hi, e] at e2
  exact Option.some.inj e2
theorem SaysP.xfs (c : SaysP fa fn ts tf ps es w h K) {x : Xf} (hx : x ∈ es) : xfB K x = true := List.all_eq_true.mp (ba c.x.more).2 x hx
end
/-! ### the law's own def, its start -/
theorem fn_at {P : Program} {w : World} {K : PySem.W.Frag} {mg : Str → Option Value} {base : Heap} {g : Gb} {x qual : Str} {params : Arguments} {body : List Stmt} {scope : Scope} {f : Addr} {fd : FuncData} {N ps : List Str} {k n m : Nat} {b : Sv}
    (F : FunD K x qual params body scope [] [] f fd) (Sc : FnScope N ps scope) (hn : ps.length = n) (hm : N.length - n = m)
    (hbody : ∀ (A : Around) (outer : List PySem.Env) (s : Shared) (H : Hp) (E : XK) (W : Wo), Room k (A.deeper (envOfC qual scope s.heap.objs.size f fd.code)) →
      PSs (cxOf (L2.CX P w) P w K mg base N qual scope f fd.code A outer s H E) body (sd g (fun cls d _ H' => E cls d H') W H b)) :
    FnOk P w K mg base (L2.CX P w) (k + 1) f fd ps (spF g n (fnM m b)) := by
  obtain ⟨oc, od, dV, kV, doc, pm, an, cdv, ct, osl, rfl, lk, hcd, _, _⟩ := F.ex
  refine fn_of lk hcd Sc (fun vs H Q E ⟨W, S, ss, st, ha, hl, _⟩ => by rw [ha.len, hl, hn]) fun A outer s H vs Q E hr ⟨W, S, ss, st, ha, hl, h⟩ => ⟨_, hbody A outer s H E W hr, W, ss ++ List.replicate m .un, S, st, ?_, Ext.refl, ?_⟩
  · have : L2.start N vs = vs.map some ++ List.replicate m none := by
      unfold L2.start
      rw [ha.len, hl, hm]
    rw [this]
    exact ha.env H
  · revert h
    show (match (b (ss ++ List.replicate m .un) S).bind fun f S1 => opt (fin f) S1 with
      | .ok d S' => _
      | .exc e S' => _
      | .bad => False) → _
    cases b (ss ++ List.replicate m .un) S with
    | ok fl S1 =>
      cases fl with
      | nx ρ => exact fun h σ' W' H' s' n' e' _ => h .non W' H' e' s' (by simp only [Rep])
      | rt d => exact fun h v W' H' s' e' r' => h v W' H' e' s' r'
      | bk ρ => exact fun h => h.elim
      | ct ρ => exact fun h => h.elim
    | exc x S1 => exact fun h σ' W' H' cls y s' e' p' => h W' H' cls y e' s' p'
    | bad => exact fun h => h.elim
theorem start_ok {g : Gb} {H : Hp} {a : Addr} {ns : List Int} (hT : NdefX.TabsN g.T H) (hS : SqL g.K H a (ns.map V.int)) : ∃ W : Wo, g.Sta W H [] ∧ g.Rep W H (.scr ns) (.ref a) := by
  have mk : ∀ R : Addr → Prop, (∀ x, R x → ∃ o, H x = some o ∧ isFz o) → g.Sta ⟨R, []⟩ H [] := fun R h => ⟨h, List.nodup_nil, fun x hx => (by cases hx), rfl, fun l c x h1 h2 => (by simp at h1), hT⟩
  rcases hS with h | h
  · refine ⟨⟨fun x => x = a, []⟩, mk _ fun x hx => ?_, ?_⟩
    · subst hx
      rcases h with h | ⟨o, h⟩
      · exact ⟨_, h, trivial⟩
      · exact ⟨_, h, trivial⟩
    · simp only [Rep]
      exact ⟨a, rfl, .inl ⟨rfl, h⟩⟩
  · refine ⟨⟨fun _ => False, []⟩, mk _ fun x hx => hx.elim, ?_⟩
    simp only [Rep]
    exact ⟨a, rfl, .inr h⟩
theorem start_sp {g : Gb} {H : Hp} {a : Addr} {ns : List Int} {M : List Slot → Sto → Res D} (hT : NdefX.TabsN g.T H) (hS : SqL g.K H a (ns.map V.int)) (h : ∃ S', M [.fz (.scr ns)] [] = .ok (.bl true) S') :
    spF g 1 M [.ref a] H (fun v _ => v = .bl true) fun _ _ _ => False := by
  obtain ⟨W, st, r⟩ := start_ok (g := g) hT hS
  obtain ⟨S', e⟩ := h
  refine ⟨W, [], [.fz (.scr ns)], st, ⟨_, [], rfl, r, rfl⟩, rfl, ?_⟩
  rw [e]
  exact fun v W' H' _ _ r => Rep.bl r
end DL

set_option linter.all false
set_option maxRecDepth 100000
/-! DL, part Sm: the mirrors run by simp: laws of the operators at given kinds of values. Plain Lean. -/
namespace DL
open PySem
variable {S : Sto} {i j : Int} {x y : List Nat} {a b : Bool} {d e : D}
@[simp] theorem gtS_int : gtS S (.int i) (.int j) = some (.bl (decide (j < i))) := rfl
@[simp] theorem ltS_int : ltS S (.int i) (.int j) = some (.bl (decide (i < j))) := rfl
@[simp] theorem leS_int : leS S (.int i) (.int j) = some (.bl (decide (i ≤ j))) := by
  show some (D.bl (!decide (j < i))) = _
  congr 2
  by_cases h : j < i <;> simp [h] <;> omega
@[simp] theorem geS_int : geS S (.int i) (.int j) = some (.bl (decide (j ≤ i))) := by
  show some (D.bl (!decide (i < j))) = _
  congr 2
  by_cases h : i < j <;> simp [h] <;> omega
theorem eqS_int : eqS S (.int i) (.int j) = some (.bl (i == j)) := rfl
theorem neS_int : neS S (.int i) (.int j) = some (.bl (!(i == j))) := rfl
theorem eqS_str : eqS S (.str x) (.str y) = some (.bl (x == y)) := rfl
theorem neS_str : neS S (.str x) (.str y) = some (.bl (!(x == y))) := rfl
@[simp] theorem eqS_bl : eqS S (.bl a) (.bl b) = some (.bl (a == b)) := rfl
@[simp] theorem neS_bl : neS S (.bl a) (.bl b) = some (.bl (!(a == b))) := rfl
@[simp] theorem addS_int : addS S (.int i) (.int j) = some (.int (i + j)) := rfl
@[simp] theorem subS_int : subS S (.int i) (.int j) = some (.int (i - j)) := rfl
theorem mulS_int (h : mulOk i j = true) : mulS S (.int i) (.int j) = some (.int (i * j)) := if_pos h
@[simp] theorem modS_int (h : 0 < j) : modS S (.int i) (.int j) = some (.int (i % j)) := if_pos h
@[simp] theorem fdivS_int (h : 0 < j) (h2 : j < 1073741824) : fdivS S (.int i) (.int j) = some (.int (i / j)) := if_pos ⟨h, Nat.lt_of_lt_of_le ((Nat.log2_lt (by omega)).mpr (show j.natAbs < 2 ^ 30 by omega)) (by decide)⟩
theorem atL_zero {α : Type} {u : α} {us : List α} : atL (u :: us) 0 = some u := by simp [atL, ixNat]
@[simp] theorem atL_nat {α : Type} {us : List α} {n : Nat} : atL us (n : Int) = us[n]? := by
  unfold atL ixNat
  rw [if_pos (by omega)]
  by_cases h : (n : Int) < us.length
  · rw [if_pos h]
    rfl
  · rw [if_neg h]
    exact (List.getElem?_eq_none (by omega)).symm
theorem opt_bind {α β : Type} {o : Option α} {u : α} (h : o = some u) {f : α → Sto → Res β} : (opt o S).bind f = f u S := by rw [h]; rfl
/-! ### loops -/
theorem lcGo_pure {t : Tg} {c : Tv} {e : Ev} {own : List Nat} {ρ : Env} {S : Sto} (cb : D → Bool) (f : D → D) : ∀ ds : List D, (∀ d ∈ ds, ∃ ρ1, t.put d (wipe ρ own) = some ρ1 ∧ c ρ1 S = .ok (cb d) S ∧ (cb d = true → e ρ1 S = .ok (f d) S)) →
    lcGo t c e own ρ ds S = .ok ((ds.filter cb).map f) S
  | [], _ => rfl
  | d :: ds, h => by
    obtain ⟨ρ1, h1, h2, h3⟩ := h d List.mem_cons_self
    have ih := lcGo_pure cb f ds fun d hd => h d (List.mem_cons_of_mem _ hd)
    unfold lcGo
    rw [h1]
    simp only [opt_some, Res.bind_ok, h2]
    cases hc : cb d with
    | true => simp [h3 hc, ih, hc]
    | false => simp [ih, hc]
/-- with the store changing -/
theorem lcGo_inv {t : Tg} {c : Tv} {e : Ev} {own : List Nat} {ρ : Env} (I : List D → List D → Sto → Prop)
    (h : ∀ d ds acc S, I (d :: ds) acc S → ∃ ρ1, t.put d (wipe ρ own) = some ρ1 ∧ ∃ k S1, c ρ1 S = .ok k S1 ∧ (k = true → ∃ y S2, e ρ1 S1 = .ok y S2 ∧ I ds (acc ++ [y]) S2) ∧ (k = false → I ds acc S1)) :
    ∀ (ds acc : List D) (S : Sto), I ds acc S → ∃ ys S', lcGo t c e own ρ ds S = .ok ys S' ∧ I [] (acc ++ ys) S'
  | [], acc, S, i => ⟨[], S, rfl, by simpa using i⟩
  | d :: ds, acc, S, i => by
    obtain ⟨ρ1, h1, k, S1, h2, h3, h4⟩ := h d ds acc S i
    cases k with
    | true =>
      obtain ⟨y, S2, h5, i2⟩ := h3 rfl
      obtain ⟨ys, S', h6, i3⟩ := lcGo_inv I h ds (acc ++ [y]) S2 i2
      refine ⟨y :: ys, S', ?_, by simpa using i3⟩
      unfold lcGo
      simp [h1, h2, h5, h6]
    | false =>
      obtain ⟨ys, S', h6, i3⟩ := lcGo_inv I h ds acc S1 (h4 rfl)
      refine ⟨ys, S', ?_, i3⟩
      unfold lcGo
      simp [h1, h2, h6]
theorem forGo_inv {t : Tg} {b : Sv} (I : List D → Env → Sto → Prop) (h : ∀ d ds ρ S, I (d :: ds) ρ S → ∃ ρ1, t.put d ρ = some ρ1 ∧ ∃ ρ2 S2, (b ρ1 S = .ok (.nx ρ2) S2 ∨ b ρ1 S = .ok (.ct ρ2) S2) ∧ I ds ρ2 S2) :
    ∀ (ds : List D) (ρ : Env) (S : Sto), I ds ρ S → ∃ ρ' S', forGo t b ds ρ S = .ok (.nx ρ') S' ∧ I [] ρ' S'
  | [], ρ, S, i => ⟨ρ, S, rfl, i⟩
  | d :: ds, ρ, S, i => by
    obtain ⟨ρ1, h1, ρ2, S2, h2, i2⟩ := h d ds ρ S i
    obtain ⟨ρ', S', h3, i3⟩ := forGo_inv I h ds ρ2 S2 i2
    refine ⟨ρ', S', ?_, i3⟩
    unfold forGo
    rcases h2 with h2 | h2 <;> simp [h1, h2, h3]
/-! ### the nest that most laws make of their list -/
def isI : D → Bool
  | .int _ => true
  | _ => false
def toI : D → Int
  | .int i => i
  | _ => 0
theorem powS_int (h : 0 ≤ j) (h2 : j ≤ 1000000) (h3 : i.natAbs < 2 ^ 64) : powS S (.int i) (.int j) = some (.int (i ^ j.toNat)) := if_pos ⟨h, h2, h3⟩
theorem py_ints {ds : List D} (h : ∀ d ∈ ds, isI d = true) (n : Nat) : ds.all (py n) = true := by
  rw [List.all_eq_true]
  intro d hd
  have := h d hd
  cases d <;> simp [isI] at this
  cases n <;> rfl
theorem cut_ints {ns : List Int} {lo hi : Option Int} : ∀ d ∈ cut (ns.map D.int) lo hi, isI d = true := by
  intro d hd
  have := List.mem_of_mem_drop (List.mem_of_mem_take hd)
  obtain ⟨z, _, rfl⟩ := List.mem_map.mp this
  rfl
theorem neS_lstNil {ds : List D} (h : ∀ d ∈ ds, isI d = true) : neS S (.lst ds) (.lst []) = some (.bl (!ds.isEmpty)) := by
  unfold neS
  rw [if_pos]
  · cases ds <;> rfl
  · rw [Bool.and_eq_true]
    exact ⟨py_ints h 39, rfl⟩
/-! ### straight mirrors by simp -/
@[simp] theorem isiS_int {T : Ty} : isiS T S (.int i) = some (.bl (isTy T .int)) := rfl
@[simp] theorem isiS_bl {T : Ty} : isiS T S (.bl a) = some (.bl (isTy T .bl)) := rfl
@[simp] theorem isiS_str {T : Ty} : isiS T S (.str x) = some (.bl (isTy T .str)) := rfl
@[simp] theorem isiS_tup {T : Ty} {ds : List D} : isiS T S (.tup ds) = some (.bl (isTy T .tup)) := rfl
@[simp] theorem isiS_lst {T : Ty} {ds : List D} : isiS T S (.lst ds) = some (.bl (isTy T .lst)) := rfl
@[simp] theorem isiS_non {T : Ty} : isiS T S .non = some (.bl (isTy T .non)) := rfl
end DL

set_option linter.all false
set_option maxRecDepth 100000
/-! DL, part Wp: what a mirror gives, step by step. Plain Lean. -/
namespace DL
open PySem
section
variable {ρ : DL.Env} {S : Sto}
def lstK (ys : List D) (S : Sto) : Res D := .ok (.lst ys) S
@[simp] theorem lstK_at {ys : List D} : lstK ys S = .ok (.lst ys) S := rfl
def e1_k1 (g : Sto → D → Option D) (x : D) (S1 : Sto) : Res (D) := opt (g S1 x) S1
@[simp] theorem e1_k1_at (g : Sto → D → Option D) (x : D) {S1 : Sto} : e1_k1 g x S1 = opt (g S1 x) S1 := rfl
@[simp] theorem e1_at (g : Sto → D → Option D) (a : Ev) : (e1 g a) ρ S = (a ρ S).bind (e1_k1 g) := rfl
def e2_k2 (g : Sto → D → D → Option D) (x : D) (y : D) (S2 : Sto) : Res (D) := opt (g S2 x y) S2
@[simp] theorem e2_k2_at (g : Sto → D → D → Option D) (x : D) (y : D) {S2 : Sto} : e2_k2 g x y S2 = opt (g S2 x y) S2 := rfl
def e2_k1 (g : Sto → D → D → Option D) (b : Ev) (ρ : DL.Env) (x : D) (S1 : Sto) : Res (D) := (b ρ S1).bind (e2_k2 g x)
@[simp] theorem e2_k1_at (g : Sto → D → D → Option D) (b : Ev) (ρ : DL.Env) (x : D) {S1 : Sto} : e2_k1 g b ρ x S1 = (b ρ S1).bind (e2_k2 g x) := rfl
@[simp] theorem e2_at (g : Sto → D → D → Option D) (a b : Ev) : (e2 g a b) ρ S = (a ρ S).bind (e2_k1 g b ρ) := rfl
def eCons_k2 (x : D) (xs : List D) (S2 : Sto) : Res (List D) := .ok (x :: xs) S2
@[simp] theorem eCons_k2_at (x : D) (xs : List D) {S2 : Sto} : eCons_k2 x xs S2 = .ok (x :: xs) S2 := rfl
def eCons_k1 (r : Evs) (ρ : DL.Env) (x : D) (S1 : Sto) : Res (List D) := (r ρ S1).bind (eCons_k2 x)
@[simp] theorem eCons_k1_at (r : Evs) (ρ : DL.Env) (x : D) {S1 : Sto} : eCons_k1 r ρ x S1 = (r ρ S1).bind (eCons_k2 x) := rfl
@[simp] theorem eCons_at (a : Ev) (r : Evs) : (eCons a r) ρ S = (a ρ S).bind (eCons_k1 r ρ) := rfl
def eN_k1 (g : Sto → List D → Option D) (xs : List D) (S1 : Sto) : Res (D) := opt (g S1 xs) S1
@[simp] theorem eN_k1_at (g : Sto → List D → Option D) (xs : List D) {S1 : Sto} : eN_k1 g xs S1 = opt (g S1 xs) S1 := rfl
@[simp] theorem eN_at (g : Sto → List D → Option D) (as : Evs) : (eN g as) ρ S = (as ρ S).bind (eN_k1 g) := rfl
def eTup_k1  (xs : List D) (S1 : Sto) : Res (D) := .ok (.tup xs) S1
@[simp] theorem eTup_k1_at  (xs : List D) {S1 : Sto} : eTup_k1 xs S1 = .ok (.tup xs) S1 := rfl
@[simp] theorem eTup_at (as : Evs) : (eTup as) ρ S = (as ρ S).bind eTup_k1 := rfl
def eLst_k1  (xs : List D) (S1 : Sto) : Res (D) := .ok (.lst xs) S1
@[simp] theorem eLst_k1_at  (xs : List D) {S1 : Sto} : eLst_k1 xs S1 = .ok (.lst xs) S1 := rfl
@[simp] theorem eLst_at (as : Evs) : (eLst as) ρ S = (as ρ S).bind eLst_k1 := rfl
def eIf_k1 (a : Ev) (b : Ev) (ρ : DL.Env) : Bool → Sto → Res (D)
  | true, S1 => a ρ S1
  | false, S1 => b ρ S1
@[simp] theorem eIf_k1_t (a : Ev) (b : Ev) (ρ : DL.Env) : eIf_k1 a b ρ true S = a ρ S := rfl
@[simp] theorem eIf_k1_f (a : Ev) (b : Ev) (ρ : DL.Env) : eIf_k1 a b ρ false S = b ρ S := rfl
@[simp] theorem eIf_at (t : Tv) (a b : Ev) : (eIf t a b) ρ S = (t ρ S).bind (eIf_k1 a b ρ) := by
  unfold eIf
  congr 1
  funext c S1
  cases c <;> rfl
def tB_k1  (x : D) (S1 : Sto) : Res (Bool) := opt (bV x) S1
@[simp] theorem tB_k1_at  (x : D) {S1 : Sto} : tB_k1 x S1 = opt (bV x) S1 := rfl
@[simp] theorem tB_at (a : Ev) : (tB a) ρ S = (a ρ S).bind tB_k1 := rfl
def tT_k1  (x : D) (S1 : Sto) : Res (Bool) := opt (truS S1 x) S1
@[simp] theorem tT_k1_at  (x : D) {S1 : Sto} : tT_k1 x S1 = opt (truS S1 x) S1 := rfl
@[simp] theorem tT_at (a : Ev) : (tT a) ρ S = (a ρ S).bind tT_k1 := rfl
def tAnd_k1 (u : Tv) (ρ : DL.Env) : Bool → Sto → Res (Bool)
  | true, S1 => u ρ S1
  | false, S1 => .ok false S1
@[simp] theorem tAnd_k1_t (u : Tv) (ρ : DL.Env) : tAnd_k1 u ρ true S = u ρ S := rfl
@[simp] theorem tAnd_k1_f (u : Tv) (ρ : DL.Env) : tAnd_k1 u ρ false S = .ok false S := rfl
@[simp] theorem tAnd_at (t u : Tv) : (tAnd t u) ρ S = (t ρ S).bind (tAnd_k1 u ρ) := by
  unfold tAnd
  congr 1
  funext c S1
  cases c <;> rfl
def tOr_k1 (u : Tv) (ρ : DL.Env) : Bool → Sto → Res (Bool)
  | true, S1 => .ok true S1
  | false, S1 => u ρ S1
@[simp] theorem tOr_k1_t (u : Tv) (ρ : DL.Env) : tOr_k1 u ρ true S = .ok true S := rfl
@[simp] theorem tOr_k1_f (u : Tv) (ρ : DL.Env) : tOr_k1 u ρ false S = u ρ S := rfl
@[simp] theorem tOr_at (t u : Tv) : (tOr t u) ρ S = (t ρ S).bind (tOr_k1 u ρ) := by
  unfold tOr
  congr 1
  funext c S1
  cases c <;> rfl
def tNot_k1  (c : Bool) (S1 : Sto) : Res (Bool) := .ok (!c) S1
@[simp] theorem tNot_k1_at  (c : Bool) {S1 : Sto} : tNot_k1 c S1 = .ok (!c) S1 := rfl
@[simp] theorem tNot_at (t : Tv) : (tNot t) ρ S = (t ρ S).bind tNot_k1 := rfl
def eCut_k3 (x : D) (l : Option Int) (h : Option Int) (S3 : Sto) : Res (D) := opt (cutS l h S3 x) S3
@[simp] theorem eCut_k3_at (x : D) (l : Option Int) (h : Option Int) {S3 : Sto} : eCut_k3 x l h S3 = opt (cutS l h S3 x) S3 := rfl
def eCut_k2 (hi : Eo) (ρ : DL.Env) (x : D) (l : Option Int) (S2 : Sto) : Res (D) := (hi ρ S2).bind (eCut_k3 x l)
@[simp] theorem eCut_k2_at (hi : Eo) (ρ : DL.Env) (x : D) (l : Option Int) {S2 : Sto} : eCut_k2 hi ρ x l S2 = (hi ρ S2).bind (eCut_k3 x l) := rfl
def eCut_k1 (lo : Eo) (hi : Eo) (ρ : DL.Env) (x : D) (S1 : Sto) : Res (D) := (lo ρ S1).bind (eCut_k2 hi ρ x)
@[simp] theorem eCut_k1_at (lo : Eo) (hi : Eo) (ρ : DL.Env) (x : D) {S1 : Sto} : eCut_k1 lo hi ρ x S1 = (lo ρ S1).bind (eCut_k2 hi ρ x) := rfl
@[simp] theorem eCut_at (a : Ev) (lo hi : Eo) : (eCut a lo hi) ρ S = (a ρ S).bind (eCut_k1 lo hi ρ) := rfl
def sExpr_k1 (ρ : DL.Env) (u : D) (S1 : Sto) : Res (Fl) := .ok (.nx ρ) S1
@[simp] theorem sExpr_k1_at (ρ : DL.Env) (u : D) {S1 : Sto} : sExpr_k1 ρ u S1 = .ok (.nx ρ) S1 := rfl
@[simp] theorem sExpr_at (a : Ev) : (sExpr a) ρ S = (a ρ S).bind (sExpr_k1 ρ) := rfl
def sRet_k1  (d : D) (S1 : Sto) : Res (Fl) := .ok (.rt d) S1
@[simp] theorem sRet_k1_at  (d : D) {S1 : Sto} : sRet_k1 d S1 = .ok (.rt d) S1 := rfl
@[simp] theorem sRet_at (a : Ev) : (sRet a) ρ S = (a ρ S).bind sRet_k1 := rfl
def sIf_k1 (a : Sv) (b : Sv) (ρ : DL.Env) : Bool → Sto → Res (Fl)
  | true, S1 => a ρ S1
  | false, S1 => b ρ S1
@[simp] theorem sIf_k1_t (a : Sv) (b : Sv) (ρ : DL.Env) : sIf_k1 a b ρ true S = a ρ S := rfl
@[simp] theorem sIf_k1_f (a : Sv) (b : Sv) (ρ : DL.Env) : sIf_k1 a b ρ false S = b ρ S := rfl
@[simp] theorem sIf_at (t : Tv) (a b : Sv) : (sIf t a b) ρ S = (t ρ S).bind (sIf_k1 a b ρ) := by
  unfold sIf
  congr 1
  funext c S1
  cases c <;> rfl
def sSet_k1 (i : Nat) (ρ : DL.Env) (d : D) (S1 : Sto) : Res (Fl) := .ok (.nx (ρ.set i (.fz d))) S1
@[simp] theorem sSet_k1_at (i : Nat) (ρ : DL.Env) (d : D) {S1 : Sto} : sSet_k1 i ρ d S1 = .ok (.nx (ρ.set i (.fz d))) S1 := rfl
@[simp] theorem sSet_at (i : Nat) (a : Ev) : (sSet i a) ρ S = (a ρ S).bind (sSet_k1 i ρ) := rfl
def sOwn_k1 (i : Nat) (ρ : DL.Env) (d : D) (S1 : Sto) : Res (Fl) := .ok (.nx (ρ.set i (.ow d))) S1
@[simp] theorem sOwn_k1_at (i : Nat) (ρ : DL.Env) (d : D) {S1 : Sto} : sOwn_k1 i ρ d S1 = .ok (.nx (ρ.set i (.ow d))) S1 := rfl
@[simp] theorem sOwn_at (i : Nat) (a : Ev) : (sOwn i a) ρ S = (a ρ S).bind (sOwn_k1 i ρ) := rfl
@[simp] theorem sFrz_at (i : Nat) (a : Sv) : (sFrz i a) ρ S = a (frz i ρ) S := rfl
def sTg_k1 (t : Tg) (ρ : DL.Env) (d : D) (S1 : Sto) : Res (Fl) := opt ((t.put d ρ).map Fl.nx) S1
@[simp] theorem sTg_k1_at (t : Tg) (ρ : DL.Env) (d : D) {S1 : Sto} : sTg_k1 t ρ d S1 = opt ((t.put d ρ).map Fl.nx) S1 := rfl
@[simp] theorem sTg_at (t : Tg) (a : Ev) : (sTg t a) ρ S = (a ρ S).bind (sTg_k1 t ρ) := rfl
def eCall_k1 (M : List Slot → Sto → Res D) (ds : List D) (S1 : Sto) : Res (D) := M (ds.map .fz) S1
@[simp] theorem eCall_k1_at (M : List Slot → Sto → Res D) (ds : List D) {S1 : Sto} : eCall_k1 M ds S1 = M (ds.map .fz) S1 := rfl
@[simp] theorem eCall_at (M : List Slot → Sto → Res D) (as : Evs) : (eCall M as) ρ S = (as ρ S).bind (eCall_k1 M) := rfl
def sFor_k1 (t : Tg) (b : Sv) (ρ : DL.Env) (ds : List D) (S1 : Sto) : Res (Fl) := forGo t b ds ρ S1
@[simp] theorem sFor_k1_at (t : Tg) (b : Sv) (ρ : DL.Env) (ds : List D) {S1 : Sto} : sFor_k1 t b ρ ds S1 = forGo t b ds ρ S1 := rfl
@[simp] theorem sFor_at (t : Tg) (it : It) (b : Sv) : (sFor t it b) ρ S = (it ρ S).bind (sFor_k1 t b ρ) := rfl
@[simp] theorem sWhile_at (n : Nat) (t : Tv) (b : Sv) : (sWhile n t b) ρ S = whileGo t b n ρ S := rfl
def iSeq_k1  (x : D) (S1 : Sto) : Res (List D) := opt (seqF x) S1
@[simp] theorem iSeq_k1_at  (x : D) {S1 : Sto} : iSeq_k1 x S1 = opt (seqF x) S1 := rfl
@[simp] theorem iSeq_at (a : Ev) : (iSeq a) ρ S = (a ρ S).bind iSeq_k1 := rfl
def iRange_k1  (xs : List D) (S1 : Sto) : Res (List D) := opt (rangeS xs) S1
@[simp] theorem iRange_k1_at  (xs : List D) {S1 : Sto} : iRange_k1 xs S1 = opt (rangeS xs) S1 := rfl
@[simp] theorem iRange_at (as : Evs) : (iRange as) ρ S = (as ρ S).bind iRange_k1 := rfl
def iEnum_k1  (x : D) (S1 : Sto) : Res (List D) := opt ((seqF x).map (enumL 0)) S1
@[simp] theorem iEnum_k1_at  (x : D) {S1 : Sto} : iEnum_k1 x S1 = opt ((seqF x).map (enumL 0)) S1 := rfl
@[simp] theorem iEnum_at (a : Ev) : (iEnum a) ρ S = (a ρ S).bind iEnum_k1 := rfl
def eM_k3 (o : Sto → D → List D → Option D) (x : D) (xs : List D) (S2 : Sto) : Res (D) := opt (o S2 x xs) S2
@[simp] theorem eM_k3_at (o : Sto → D → List D → Option D) (x : D) (xs : List D) {S2 : Sto} : eM_k3 o x xs S2 = opt (o S2 x xs) S2 := rfl
def eM_k2 (o : Sto → D → List D → Option D) (fs : Evs) (ρ : DL.Env) (x : D) (u : Unit) (S1 : Sto) : Res (D) := (fs ρ S1).bind (eM_k3 o x)
@[simp] theorem eM_k2_at (o : Sto → D → List D → Option D) (fs : Evs) (ρ : DL.Env) (x : D) (u : Unit) {S1 : Sto} : eM_k2 o fs ρ x u S1 = (fs ρ S1).bind (eM_k3 o x) := rfl
def eM_k1 (k : Rk) (o : Sto → D → List D → Option D) (fs : Evs) (ρ : DL.Env) (x : D) (S1 : Sto) : Res (D) := (opt (recS k S1 x) S1).bind (eM_k2 o fs ρ x)
@[simp] theorem eM_k1_at (k : Rk) (o : Sto → D → List D → Option D) (fs : Evs) (ρ : DL.Env) (x : D) {S1 : Sto} : eM_k1 k o fs ρ x S1 = (opt (recS k S1 x) S1).bind (eM_k2 o fs ρ x) := rfl
@[simp] theorem eM_at (k : Rk) (o : Sto → D → List D → Option D) (f : Ev) (fs : Evs) : (eM k o f fs) ρ S = (f ρ S).bind (eM_k1 k o fs ρ) := rfl
def sPar2_k2 (k1 : Bool) (k2 : Bool) (i : Nat) (j : Nat) (ρ : DL.Env) (d : D) (e : D) (S2 : Sto) : Res (Fl) := .ok (.nx ((ρ.set i (slK k1 d)).set j (slK k2 e))) S2
@[simp] theorem sPar2_k2_at (k1 : Bool) (k2 : Bool) (i : Nat) (j : Nat) (ρ : DL.Env) (d : D) (e : D) {S2 : Sto} : sPar2_k2 k1 k2 i j ρ d e S2 = .ok (.nx ((ρ.set i (slK k1 d)).set j (slK k2 e))) S2 := rfl
def sPar2_k1 (k1 : Bool) (k2 : Bool) (i : Nat) (j : Nat) (b : Ev) (ρ : DL.Env) (d : D) (S1 : Sto) : Res (Fl) := (b ρ S1).bind (sPar2_k2 k1 k2 i j ρ d)
@[simp] theorem sPar2_k1_at (k1 : Bool) (k2 : Bool) (i : Nat) (j : Nat) (b : Ev) (ρ : DL.Env) (d : D) {S1 : Sto} : sPar2_k1 k1 k2 i j b ρ d S1 = (b ρ S1).bind (sPar2_k2 k1 k2 i j ρ d) := rfl
@[simp] theorem sPar2_at (k1 k2 : Bool) (i j : Nat) (a b : Ev) : (sPar2 k1 k2 i j a b) ρ S = (a ρ S).bind (sPar2_k1 k1 k2 i j b ρ) := rfl
def sPar3_k3 (i : Nat) (j : Nat) (l : Nat) (ρ : DL.Env) (d : D) (e : D) (f : D) (S3 : Sto) : Res (Fl) := .ok (.nx (((ρ.set i (.fz d)).set j (.fz e)).set l (.fz f))) S3
@[simp] theorem sPar3_k3_at (i : Nat) (j : Nat) (l : Nat) (ρ : DL.Env) (d : D) (e : D) (f : D) {S3 : Sto} : sPar3_k3 i j l ρ d e f S3 = .ok (.nx (((ρ.set i (.fz d)).set j (.fz e)).set l (.fz f))) S3 := rfl
def sPar3_k2 (i : Nat) (j : Nat) (l : Nat) (c : Ev) (ρ : DL.Env) (d : D) (e : D) (S2 : Sto) : Res (Fl) := (c ρ S2).bind (sPar3_k3 i j l ρ d e)
@[simp] theorem sPar3_k2_at (i : Nat) (j : Nat) (l : Nat) (c : Ev) (ρ : DL.Env) (d : D) (e : D) {S2 : Sto} : sPar3_k2 i j l c ρ d e S2 = (c ρ S2).bind (sPar3_k3 i j l ρ d e) := rfl
def sPar3_k1 (i : Nat) (j : Nat) (l : Nat) (b : Ev) (c : Ev) (ρ : DL.Env) (d : D) (S1 : Sto) : Res (Fl) := (b ρ S1).bind (sPar3_k2 i j l c ρ d)
@[simp] theorem sPar3_k1_at (i : Nat) (j : Nat) (l : Nat) (b : Ev) (c : Ev) (ρ : DL.Env) (d : D) {S1 : Sto} : sPar3_k1 i j l b c ρ d S1 = (b ρ S1).bind (sPar3_k2 i j l c ρ d) := rfl
@[simp] theorem sPar3_at (i j l : Nat) (a b c : Ev) : (sPar3 i j l a b c) ρ S = (a ρ S).bind (sPar3_k1 i j l b c ρ) := rfl
def kCons_k2 (x : D) (xs : List Slot) (S2 : Sto) : Res (List Slot) := .ok (.fz x :: xs) S2
@[simp] theorem kCons_k2_at (x : D) (xs : List Slot) {S2 : Sto} : kCons_k2 x xs S2 = .ok (.fz x :: xs) S2 := rfl
def kCons_k1 (r : Ea) (ρ : DL.Env) (x : D) (S1 : Sto) : Res (List Slot) := (r ρ S1).bind (kCons_k2 x)
@[simp] theorem kCons_k1_at (r : Ea) (ρ : DL.Env) (x : D) {S1 : Sto} : kCons_k1 r ρ x S1 = (r ρ S1).bind (kCons_k2 x) := rfl
@[simp] theorem kCons_at (a : Ev) (r : Ea) : (kCons a r) ρ S = (a ρ S).bind (kCons_k1 r ρ) := rfl
def kLam_k1 (G : DL.Env → List D → Sto → Res D) (ρ : DL.Env) (xs : List Slot) (S2 : Sto) : Res (List Slot) := .ok (.cl (G ρ) :: xs) S2
@[simp] theorem kLam_k1_at (G : DL.Env → List D → Sto → Res D) (ρ : DL.Env) (xs : List Slot) {S2 : Sto} : kLam_k1 G ρ xs S2 = .ok (.cl (G ρ) :: xs) S2 := rfl
@[simp] theorem kLam_at (G : DL.Env → List D → Sto → Res D) (r : Ea) : (kLam G r) ρ S = (r ρ S).bind (kLam_k1 G ρ) := rfl
def eCallK_k2 (M : List Slot → Sto → Res D) (ord : List Nat) (ds : List D) (es : List D) (S2 : Sto) : Res (D) := M ((permV ord (ds ++ es)).map .fz) S2
@[simp] theorem eCallK_k2_at (M : List Slot → Sto → Res D) (ord : List Nat) (ds : List D) (es : List D) {S2 : Sto} : eCallK_k2 M ord ds es S2 = M ((permV ord (ds ++ es)).map .fz) S2 := rfl
def eCallK_k1 (M : List Slot → Sto → Res D) (ord : List Nat) (ks : Evs) (ρ : DL.Env) (ds : List D) (S1 : Sto) : Res (D) := (ks ρ S1).bind (eCallK_k2 M ord ds)
@[simp] theorem eCallK_k1_at (M : List Slot → Sto → Res D) (ord : List Nat) (ks : Evs) (ρ : DL.Env) (ds : List D) {S1 : Sto} : eCallK_k1 M ord ks ρ ds S1 = (ks ρ S1).bind (eCallK_k2 M ord ds) := rfl
@[simp] theorem eCallK_at (M : List Slot → Sto → Res D) (ord : List Nat) (as ks : Evs) : (eCallK M ord as ks) ρ S = (as ρ S).bind (eCallK_k1 M ord ks ρ) := rfl
def eCallA_k1 (M : List Slot → Sto → Res D) (ss : List Slot) (S1 : Sto) : Res (D) := M ss S1
@[simp] theorem eCallA_k1_at (M : List Slot → Sto → Res D) (ss : List Slot) {S1 : Sto} : eCallA_k1 M ss S1 = M ss S1 := rfl
@[simp] theorem eCallA_at (M : List Slot → Sto → Res D) (fa : Ea) : (eCallA M fa) ρ S = (fa ρ S).bind (eCallA_k1 M) := rfl
def sFld_k3 (ρ : DL.Env) (S3 : Sto) (S0 : Sto) : Res (Fl) := .ok (.nx ρ) S3
@[simp] theorem sFld_k3_at (ρ : DL.Env) (S3 : Sto) {S0 : Sto} : sFld_k3 ρ S3 S0 = .ok (.nx ρ) S3 := rfl
def sFld_k2 (c : Str) (n : Str) (ρ : DL.Env) (y : D) (x : D) (S2 : Sto) : Res (Fl) := (opt (setF c n y S2 x) S2).bind (sFld_k3 ρ)
@[simp] theorem sFld_k2_at (c : Str) (n : Str) (ρ : DL.Env) (y : D) (x : D) {S2 : Sto} : sFld_k2 c n ρ y x S2 = (opt (setF c n y S2 x) S2).bind (sFld_k3 ρ) := rfl
def sFld_k1 (c : Str) (n : Str) (fo : Ev) (ρ : DL.Env) (y : D) (S1 : Sto) : Res (Fl) := (fo ρ S1).bind (sFld_k2 c n ρ y)
@[simp] theorem sFld_k1_at (c : Str) (n : Str) (fo : Ev) (ρ : DL.Env) (y : D) {S1 : Sto} : sFld_k1 c n fo ρ y S1 = (fo ρ S1).bind (sFld_k2 c n ρ y) := rfl
@[simp] theorem sFld_at (c n : Str) (fo fv : Ev) : (sFld c n fo fv) ρ S = (fv ρ S).bind (sFld_k1 c n fo ρ) := rfl
def eMeth_k3 (M : List Slot → Sto → Res D) (x : D) (ds : List D) (S2 : Sto) : Res (D) := M ((x :: ds).map .fz) S2
@[simp] theorem eMeth_k3_at (M : List Slot → Sto → Res D) (x : D) (ds : List D) {S2 : Sto} : eMeth_k3 M x ds S2 = M ((x :: ds).map .fz) S2 := rfl
def eMeth_k2 (M : List Slot → Sto → Res D) (fs : Evs) (ρ : DL.Env) (x : D) (u : Unit) (S1 : Sto) : Res (D) := (fs ρ S1).bind (eMeth_k3 M x)
@[simp] theorem eMeth_k2_at (M : List Slot → Sto → Res D) (fs : Evs) (ρ : DL.Env) (x : D) (u : Unit) {S1 : Sto} : eMeth_k2 M fs ρ x u S1 = (fs ρ S1).bind (eMeth_k3 M x) := rfl
def eMeth_k1 (c : Str) (m : Str) (M : List Slot → Sto → Res D) (fs : Evs) (ρ : DL.Env) (x : D) (S1 : Sto) : Res (D) := (opt (insM c m S1 x) S1).bind (eMeth_k2 M fs ρ x)
@[simp] theorem eMeth_k1_at (c : Str) (m : Str) (M : List Slot → Sto → Res D) (fs : Evs) (ρ : DL.Env) (x : D) {S1 : Sto} : eMeth_k1 c m M fs ρ x S1 = (opt (insM c m S1 x) S1).bind (eMeth_k2 M fs ρ x) := rfl
@[simp] theorem eMeth_at (c m : Str) (M : List Slot → Sto → Res D) (fo : Ev) (fs : Evs) : (eMeth c m M fo fs) ρ S = (fo ρ S).bind (eMeth_k1 c m M fs ρ) := rfl
def eProp_k2 (M : List Slot → Sto → Res D) (x : D) (u : List (Str × D)) (S1 : Sto) : Res (D) := M [.fz x] S1
@[simp] theorem eProp_k2_at (M : List Slot → Sto → Res D) (x : D) (u : List (Str × D)) {S1 : Sto} : eProp_k2 M x u S1 = M [.fz x] S1 := rfl
def eProp_k1 (c : Str) (M : List Slot → Sto → Res D) (x : D) (S1 : Sto) : Res (D) := (opt (insF c S1 x) S1).bind (eProp_k2 M x)
@[simp] theorem eProp_k1_at (c : Str) (M : List Slot → Sto → Res D) (x : D) {S1 : Sto} : eProp_k1 c M x S1 = (opt (insF c S1 x) S1).bind (eProp_k2 M x) := rfl
@[simp] theorem eProp_at (c : Str) (M : List Slot → Sto → Res D) (fo : Ev) : (eProp c M fo) ρ S = (fo ρ S).bind (eProp_k1 c M) := rfl
def eMake_k1 (c : Str) (M : List Slot → Sto → Res D) (ds : List D) (S1 : Sto) : Res (D) := mkR c M ds S1
@[simp] theorem eMake_k1_at (c : Str) (M : List Slot → Sto → Res D) (ds : List D) {S1 : Sto} : eMake_k1 c M ds S1 = mkR c M ds S1 := rfl
@[simp] theorem eMake_at (c : Str) (M : List Slot → Sto → Res D) (fs : Evs) : (eMake c M fs) ρ S = (fs ρ S).bind (eMake_k1 c M) := rfl
def eMakeK_k1 (c : Str) (M : List Slot → Sto → Res D) (ord : List Nat) (ds : List D) (S1 : Sto) : Res (D) := mkR c M (permV ord ds) S1
@[simp] theorem eMakeK_k1_at (c : Str) (M : List Slot → Sto → Res D) (ord : List Nat) (ds : List D) {S1 : Sto} : eMakeK_k1 c M ord ds S1 = mkR c M (permV ord ds) S1 := rfl
@[simp] theorem eMakeK_at (c : Str) (M : List Slot → Sto → Res D) (ord : List Nat) (fk : Evs) : (eMakeK c M ord fk) ρ S = (fk ρ S).bind (eMakeK_k1 c M ord) := rfl
def eMk_k1 (c : Str) (M : List Slot → Sto → Res D) (ord : List Nat) (ds : List D) (S1 : Sto) : Res (D) := mkRK c M ord ds S1
@[simp] theorem eMk_k1_at (c : Str) (M : List Slot → Sto → Res D) (ord : List Nat) (ds : List D) {S1 : Sto} : eMk_k1 c M ord ds S1 = mkRK c M ord ds S1 := rfl
@[simp] theorem eMk_at (c : Str) (M : List Slot → Sto → Res D) (ord : List Nat) (fs : Evs) : (eMk c M ord fs) ρ S = (fs ρ S).bind (eMk_k1 c M ord) := rfl
def sIxS_k4 (ρ : DL.Env) (S4 : Sto) (S0 : Sto) : Res (Fl) := .ok (.nx ρ) S4
@[simp] theorem sIxS_k4_at (ρ : DL.Env) (S4 : Sto) {S0 : Sto} : sIxS_k4 ρ S4 S0 = .ok (.nx ρ) S4 := rfl
def sIxS_k3 (ρ : DL.Env) (y : D) (x : D) (k : D) (S3 : Sto) : Res (Fl) := (opt (setIx y S3 x k) S3).bind (sIxS_k4 ρ)
@[simp] theorem sIxS_k3_at (ρ : DL.Env) (y : D) (x : D) (k : D) {S3 : Sto} : sIxS_k3 ρ y x k S3 = (opt (setIx y S3 x k) S3).bind (sIxS_k4 ρ) := rfl
def sIxS_k2 (fi : Ev) (ρ : DL.Env) (y : D) (x : D) (S2 : Sto) : Res (Fl) := (fi ρ S2).bind (sIxS_k3 ρ y x)
@[simp] theorem sIxS_k2_at (fi : Ev) (ρ : DL.Env) (y : D) (x : D) {S2 : Sto} : sIxS_k2 fi ρ y x S2 = (fi ρ S2).bind (sIxS_k3 ρ y x) := rfl
def sIxS_k1 (fo : Ev) (fi : Ev) (ρ : DL.Env) (y : D) (S1 : Sto) : Res (Fl) := (fo ρ S1).bind (sIxS_k2 fi ρ y)
@[simp] theorem sIxS_k1_at (fo : Ev) (fi : Ev) (ρ : DL.Env) (y : D) {S1 : Sto} : sIxS_k1 fo fi ρ y S1 = (fo ρ S1).bind (sIxS_k2 fi ρ y) := rfl
@[simp] theorem sIxS_at (fo fi fv : Ev) : (sIxS fo fi fv) ρ S = (fv ρ S).bind (sIxS_k1 fo fi ρ) := rfl
def iZip_k1  (xs : List D) (S1 : Sto) : Res (List D) := opt (zipS xs) S1
@[simp] theorem iZip_k1_at  (xs : List D) {S1 : Sto} : iZip_k1 xs S1 = opt (zipS xs) S1 := rfl
@[simp] theorem iZip_at (as : Evs) : (iZip as) ρ S = (as ρ S).bind iZip_k1 := rfl
def oSome_k1  (x : D) (S1 : Sto) : Res (Option Int) := opt ((iV x).map some) S1
@[simp] theorem oSome_k1_at  (x : D) {S1 : Sto} : oSome_k1 x S1 = opt ((iV x).map some) S1 := rfl
@[simp] theorem oSome_at (a : Ev) : (oSome a) ρ S = (a ρ S).bind oSome_k1 := rfl
def eFld_k1 (c : Str) (n : Str) (x : D) (S1 : Sto) : Res (D) := opt (fldS c n S1 x) S1
@[simp] theorem eFld_k1_at (c : Str) (n : Str) (x : D) {S1 : Sto} : eFld_k1 c n x S1 = opt (fldS c n S1 x) S1 := rfl
@[simp] theorem eFld_at (c n : Str) (f : Ev) : (eFld c n f) ρ S = (f ρ S).bind (eFld_k1 c n) := rfl
def tChn_k1  (x : D) (S1 : Sto) : Res (Bool) := opt (bV x) S1
@[simp] theorem tChn_k1_at  (x : D) {S1 : Sto} : tChn_k1 x S1 = opt (bV x) S1 := rfl
@[simp] theorem tChn_at (o o' : Sto → D → D → Option D) (a b c : Ev) : (tChn o o' a b c) ρ S = (eChn o o' a b c ρ S).bind tChn_k1 := rfl
def eAnd_k2 (b : Ev) (ρ : DL.Env) : Bool → Sto → Res (D)
  | true, S1 => b ρ S1
  | false, S1 => .ok (.bl false) S1
@[simp] theorem eAnd_k2_t (b : Ev) (ρ : DL.Env) : eAnd_k2 b ρ true S = b ρ S := rfl
@[simp] theorem eAnd_k2_f (b : Ev) (ρ : DL.Env) : eAnd_k2 b ρ false S = .ok (.bl false) S := rfl
def eAnd_k1 (b : Ev) (ρ : DL.Env) (x : D) (S1 : Sto) : Res (D) := (opt (bV x) S1).bind (eAnd_k2 b ρ)
@[simp] theorem eAnd_k1_at (b : Ev) (ρ : DL.Env) (x : D) {S1 : Sto} : eAnd_k1 b ρ x S1 = (opt (bV x) S1).bind (eAnd_k2 b ρ) := rfl
@[simp] theorem eAnd_at (a b : Ev) : (eAnd a b) ρ S = (a ρ S).bind (eAnd_k1 b ρ) := by
  unfold eAnd
  congr 1
  funext x S1
  show _ = (opt _ S1).bind _
  congr 1
  funext c S2
  cases c <;> rfl
def eOr_k2 (b : Ev) (ρ : DL.Env) : Bool → Sto → Res (D)
  | true, S1 => .ok (.bl true) S1
  | false, S1 => b ρ S1
@[simp] theorem eOr_k2_t (b : Ev) (ρ : DL.Env) : eOr_k2 b ρ true S = .ok (.bl true) S := rfl
@[simp] theorem eOr_k2_f (b : Ev) (ρ : DL.Env) : eOr_k2 b ρ false S = b ρ S := rfl
def eOr_k1 (b : Ev) (ρ : DL.Env) (x : D) (S1 : Sto) : Res (D) := (opt (bV x) S1).bind (eOr_k2 b ρ)
@[simp] theorem eOr_k1_at (b : Ev) (ρ : DL.Env) (x : D) {S1 : Sto} : eOr_k1 b ρ x S1 = (opt (bV x) S1).bind (eOr_k2 b ρ) := rfl
@[simp] theorem eOr_at (a b : Ev) : (eOr a b) ρ S = (a ρ S).bind (eOr_k1 b ρ) := by
  unfold eOr
  congr 1
  funext x S1
  show _ = (opt _ S1).bind _
  congr 1
  funext c S2
  cases c <;> rfl
def eOrT_k2 (b : Ev) (ρ : DL.Env) (x : D) : Bool → Sto → Res (D)
  | true, S1 => .ok x S1
  | false, S1 => b ρ S1
@[simp] theorem eOrT_k2_t (b : Ev) (ρ : DL.Env) (x : D) : eOrT_k2 b ρ x true S = .ok x S := rfl
@[simp] theorem eOrT_k2_f (b : Ev) (ρ : DL.Env) (x : D) : eOrT_k2 b ρ x false S = b ρ S := rfl
def eOrT_k1 (b : Ev) (ρ : DL.Env) (x : D) (S1 : Sto) : Res (D) := (opt (truS S1 x) S1).bind (eOrT_k2 b ρ x)
@[simp] theorem eOrT_k1_at (b : Ev) (ρ : DL.Env) (x : D) {S1 : Sto} : eOrT_k1 b ρ x S1 = (opt (truS S1 x) S1).bind (eOrT_k2 b ρ x) := rfl
@[simp] theorem eOrT_at (a b : Ev) : (eOrT a b) ρ S = (a ρ S).bind (eOrT_k1 b ρ) := by
  unfold eOrT
  congr 1
  funext x S1
  show _ = (opt _ S1).bind _
  congr 1
  funext c S2
  cases c <;> rfl
def eAndT_k2 (b : Ev) (ρ : DL.Env) (x : D) : Bool → Sto → Res (D)
  | true, S1 => b ρ S1
  | false, S1 => .ok x S1
@[simp] theorem eAndT_k2_t (b : Ev) (ρ : DL.Env) (x : D) : eAndT_k2 b ρ x true S = b ρ S := rfl
@[simp] theorem eAndT_k2_f (b : Ev) (ρ : DL.Env) (x : D) : eAndT_k2 b ρ x false S = .ok x S := rfl
def eAndT_k1 (b : Ev) (ρ : DL.Env) (x : D) (S1 : Sto) : Res (D) := (opt (truS S1 x) S1).bind (eAndT_k2 b ρ x)
@[simp] theorem eAndT_k1_at (b : Ev) (ρ : DL.Env) (x : D) {S1 : Sto} : eAndT_k1 b ρ x S1 = (opt (truS S1 x) S1).bind (eAndT_k2 b ρ x) := rfl
@[simp] theorem eAndT_at (a b : Ev) : (eAndT a b) ρ S = (a ρ S).bind (eAndT_k1 b ρ) := by
  unfold eAndT
  congr 1
  funext x S1
  show _ = (opt _ S1).bind _
  congr 1
  funext c S2
  cases c <;> rfl
def eChn_k4 (o' : Sto → D → D → Option D) (y : D) (z : D) (S3 : Sto) : Res (D) := opt (o' S3 y z) S3
@[simp] theorem eChn_k4_at (o' : Sto → D → D → Option D) (y : D) (z : D) {S3 : Sto} : eChn_k4 o' y z S3 = opt (o' S3 y z) S3 := rfl
def eChn_k3 (o' : Sto → D → D → Option D) (c : Ev) (ρ : DL.Env) (y : D) : Bool → Sto → Res (D)
  | true, S2 => (c ρ S2).bind (eChn_k4 o' y)
  | false, S2 => .ok (.bl false) S2
@[simp] theorem eChn_k3_t (o' : Sto → D → D → Option D) (c : Ev) (ρ : DL.Env) (y : D) : eChn_k3 o' c ρ y true S = (c ρ S).bind (eChn_k4 o' y) := rfl
@[simp] theorem eChn_k3_f (o' : Sto → D → D → Option D) (c : Ev) (ρ : DL.Env) (y : D) : eChn_k3 o' c ρ y false S = .ok (.bl false) S := rfl
def eChn_k2 (o : Sto → D → D → Option D) (o' : Sto → D → D → Option D) (c : Ev) (ρ : DL.Env) (x : D) (y : D) (S2 : Sto) : Res (D) := (opt ((o S2 x y).bind bV) S2).bind (eChn_k3 o' c ρ y)
@[simp] theorem eChn_k2_at (o : Sto → D → D → Option D) (o' : Sto → D → D → Option D) (c : Ev) (ρ : DL.Env) (x : D) (y : D) {S2 : Sto} : eChn_k2 o o' c ρ x y S2 = (opt ((o S2 x y).bind bV) S2).bind (eChn_k3 o' c ρ y) := rfl
def eChn_k1 (o : Sto → D → D → Option D) (o' : Sto → D → D → Option D) (b : Ev) (c : Ev) (ρ : DL.Env) (x : D) (S1 : Sto) : Res (D) := (b ρ S1).bind (eChn_k2 o o' c ρ x)
@[simp] theorem eChn_k1_at (o : Sto → D → D → Option D) (o' : Sto → D → D → Option D) (b : Ev) (c : Ev) (ρ : DL.Env) (x : D) {S1 : Sto} : eChn_k1 o o' b c ρ x S1 = (b ρ S1).bind (eChn_k2 o o' c ρ x) := rfl
@[simp] theorem eChn_at (o o' : Sto → D → D → Option D) (a b c : Ev) : (eChn o o' a b c) ρ S = (a ρ S).bind (eChn_k1 o o' b c ρ) := by
  unfold eChn
  congr 1
  funext x S1
  show _ = (b ρ S1).bind _
  congr 1
  funext y S2
  show _ = (opt _ S2).bind _
  congr 1
  funext c S3
  cases c <;> rfl
def eLc_k1 (t : Tg) (c : Tv) (e : Ev) (own : List Nat) (ρ : DL.Env) (ds : List D) (S1 : Sto) : Res (D) := if ds.length ≤ zLine then (noX (lcGo t c e own ρ ds S1)).bind lstK else .bad
theorem eLc_k1_at (t : Tg) (c : Tv) (e : Ev) (own : List Nat) (ρ : DL.Env) (ds : List D) {S1 : Sto} : eLc_k1 t c e own ρ ds S1 = if ds.length ≤ zLine then (noX (lcGo t c e own ρ ds S1)).bind lstK else .bad := rfl
theorem eLc_at (t : Tg) (it : It) (c : Tv) (e : Ev) (own : List Nat) : (eLc t it c e own) ρ S = (it ρ S).bind (eLc_k1 t c e own ρ) := rfl
def ePrp_k2 (M : List Slot → Sto → Res D) (x : D) (_ : List (Str × D)) (S1 : Sto) : Res D := noX (M [.fz x] S1)
@[simp] theorem ePrp_k2_at (M : List Slot → Sto → Res D) (x : D) (u : List (Str × D)) : ePrp_k2 M x u S = noX (M [.fz x] S) := rfl
def ePrp_k1 (c : Str) (M : List Slot → Sto → Res D) (x : D) (S1 : Sto) : Res D := (opt (insF c S1 x) S1).bind (ePrp_k2 M x)
@[simp] theorem ePrp_k1_at (c : Str) (M : List Slot → Sto → Res D) (x : D) : ePrp_k1 c M x S = (opt (insF c S x) S).bind (ePrp_k2 M x) := rfl
@[simp] theorem ePrp_at (c : Str) (M : List Slot → Sto → Res D) (fo : Ev) : (ePrp c M fo) ρ S = (fo ρ S).bind (ePrp_k1 c M) := by
  unfold ePrp
  congr 1
  funext x S1
  show _ = (opt _ S1).bind _
  cases insF c S1 x <;> rfl
def seqK (b : Sv) : Fl → Sto → Res Fl
  | .nx ρ, S => b ρ S
  | f, S => .ok f S
@[simp] theorem sSeq_at (a b : Sv) : (sSeq a b) ρ S = (a ρ S).bind (seqK b) := by
  unfold sSeq
  congr 1
  funext f S1
  cases f <;> rfl
@[simp] theorem seqK_nx (b : Sv) : seqK b (.nx ρ) S = b ρ S := rfl
@[simp] theorem seqK_rt (b : Sv) {d : D} : seqK b (.rt d) S = .ok (.rt d) S := rfl
@[simp] theorem seqK_bk (b : Sv) : seqK b (.bk ρ) S = .ok (.bk ρ) S := rfl
@[simp] theorem seqK_ct (b : Sv) : seqK b (.ct ρ) S = .ok (.ct ρ) S := rfl
def strK : D → Sto → Res (List D)
  | .str z, S => .ok (z.map fun c => D.str [c]) S
  | _, _ => .bad
@[simp] theorem iStr_at (a : Ev) : (iStr a) ρ S = (a ρ S).bind strK := by
  unfold iStr
  congr 1
  funext f S1
  cases f <;> rfl
@[simp] theorem strK_str {z : List Nat} : strK (.str z) S = .ok (z.map fun c => D.str [c]) S := rfl
def ixK3 (m : Nat) (ρ : DL.Env) (z : D) (S4 : Sto) (_ : Sto) : Res Fl := .ok (.nx (ρ.set m (.fz z))) S4
@[simp] theorem ixK3_at (m : Nat) (z : D) {S4 S5 : Sto} : ixK3 m ρ z S4 S5 = .ok (.nx (ρ.set m (.fz z))) S4 := rfl
def ixK2 (m : Nat) (ρ : DL.Env) (y z x k : D) (S3 : Sto) : Res Fl := (opt (setIx y S3 x k) S3).bind (ixK3 m ρ z)
@[simp] theorem ixK2_at (m : Nat) (y z x k : D) : ixK2 m ρ y z x k S = (opt (setIx y S x k) S).bind (ixK3 m ρ z) := rfl
def ixK1 (fi : Ev) (m : Nat) (ρ : DL.Env) (y z x : D) (S2 : Sto) : Res Fl := (fi ρ S2).bind (ixK2 m ρ y z x)
@[simp] theorem ixK1_at (fi : Ev) (m : Nat) (y z x : D) : ixK1 fi m ρ y z x S = (fi ρ S).bind (ixK2 m ρ y z x) := rfl
def ixK (fo fi : Ev) (m : Nat) (ρ : DL.Env) : D → Sto → Res Fl
  | .tup [y, z], S1 => (fo ρ S1).bind (ixK1 fi m ρ y z)
  | _, _ => .bad
@[simp] theorem sIxNm_at (fo fi : Ev) (m : Nat) (fv : Ev) : (sIxNm fo fi m fv) ρ S = (fv ρ S).bind (ixK fo fi m ρ) := by
  unfold sIxNm
  congr 1
  funext w S1
  cases w with
  | tup ds =>
    match ds with
    | [] => rfl
    | [_] => rfl
    | [_, _] => rfl
    | _ :: _ :: _ :: _ => rfl
  | _ => rfl
@[simp] theorem ixK_tup (fo fi : Ev) (m : Nat) {y z : D} : ixK fo fi m ρ (.tup [y, z]) S = (fo ρ S).bind (ixK1 fi m ρ y z) := rfl
def toK : D → Sto → Res D
  | .lst ds, S1 => .ok (.obj S1.length) (S1 ++ [.lst ds])
  | .dic ds, S1 => .ok (.obj S1.length) (S1 ++ [.dic ds])
  | _, _ => .bad
@[simp] theorem eTo_at (f : Ev) : (eTo f) ρ S = (f ρ S).bind toK := by
  unfold eTo
  congr 1
  funext x S1
  cases x <;> rfl
@[simp] theorem toK_lst {ds : List D} : toK (.lst ds) S = .ok (.obj S.length) (S ++ [.lst ds]) := rfl
def cloK (tab : Tbl) (fs : Evs) (ρ : DL.Env) (S : Sto) : Option Slot → Res D
  | some (.cl G) => (fs ρ S).bind G
  | some (.fz (.fn x)) => (match tab.lookup x with
    | some M => (fs ρ S).bind fun ds S1 => M (ds.map .fz) S1
    | none => .bad)
  | _ => .bad
@[simp] theorem eClo_at (i : Nat) (tab : Tbl) (fs : Evs) : (eClo i tab fs) ρ S = cloK tab fs ρ S ρ[i]? := by
  unfold eClo cloK
  rfl
@[simp] theorem cloK_cl (tab : Tbl) (fs : Evs) {G : List D → Sto → Res D} : cloK tab fs ρ S (some (.cl G)) = (fs ρ S).bind G := rfl
@[simp] theorem kc_at (d : D) : kc d ρ S = .ok d S := rfl
@[simp] theorem vr_at (i : Nat) : vr i ρ S = slotR ρ[i]? S := rfl
@[simp] theorem pk_at (i : Nat) : pk i ρ S = slotP ρ[i]? S := rfl
@[simp] theorem slotR_fz {d : D} : slotR (some (.fz d)) S = .ok d S := rfl
@[simp] theorem slotP_fz {d : D} : slotP (some (.fz d)) S = .ok d S := rfl
@[simp] theorem slotP_ow {d : D} : slotP (some (.ow d)) S = .ok d S := rfl
@[simp] theorem eNil_at : eNil ρ S = .ok [] S := rfl
@[simp] theorem kNil_at : kNil ρ S = .ok [] S := rfl
@[simp] theorem sNil_at : sNil ρ S = .ok (.nx ρ) S := rfl
@[simp] theorem tYes_at : tYes ρ S = .ok true S := rfl
@[simp] theorem oNone_at : oNone ρ S = .ok none S := rfl
@[simp] theorem sBrk_at : sBrk ρ S = .ok (.bk ρ) S := rfl
@[simp] theorem sCont_at : sCont ρ S = .ok (.ct ρ) S := rfl
@[simp] theorem sPut_t (i : Nat) (a : Ev) : sPut true i a = sOwn i a := rfl
@[simp] theorem sPut_f (i : Nat) (a : Ev) : sPut false i a = sSet i a := rfl
theorem lamG_at (n : Nat) (js : List Nat) (m : Nat) (eb : Ev) {ds : List D} : lamG n js m eb ρ ds S = if ds.length = n then eb (ds.map .fz ++ (js.map (capS ρ) ++ List.replicate m .un)) S else .bad := rfl
theorem fin_nx : fin (.nx ρ) = some .non := rfl
theorem fin_rt {d : D} : fin (.rt d) = some d := rfl
def finK (f : Fl) (S : Sto) : Res D := opt (fin f) S
@[simp] theorem finK_nx : finK (.nx ρ) S = .ok .non S := rfl
@[simp] theorem finK_rt {d : D} : finK (.rt d) S = .ok d S := rfl
def thenK {α β γ : Type} (f : α → Sto → Res β) (g : β → Sto → Res γ) (u : α) (S : Sto) : Res γ := (f u S).bind g
@[simp] theorem thenK_at {α β γ : Type} (f : α → Sto → Res β) (g : β → Sto → Res γ) (u : α) : thenK f g u S = (f u S).bind g := rfl
@[simp] theorem bind_then {α β γ : Type} (r : Res α) (f : α → Sto → Res β) (g : β → Sto → Res γ) : (r.bind f).bind g = r.bind (thenK f g) := Res.bind_assoc r f g
def nonK (l : Nat) : D → Sto → Res D
  | .non, S => .ok (.obj l) S
  | _, _ => .bad
@[simp] theorem nonK_non {l : Nat} : nonK l .non S = .ok (.obj l) S := rfl
theorem mkRK_at (c : Str) (M : List Slot → Sto → Res D) (ord : List Nat) (ds : List D) : mkRK c M ord ds S = (M ((permV ord (.obj S.length :: ds)).map .fz) (S ++ [.ins c []])).bind (nonK S.length) := by
  unfold mkRK
  congr 1
  funext v S2
  cases v <;> rfl
end
theorem Res.bind_congr {α β : Type} {r r' : Res α} {f : α → Sto → Res β} (h : r = r') : r.bind f = r'.bind f := by rw [h]
/-! ### operators at kinds -/
section
variable {S : Sto} {i j : Int} {x y : List Nat} {a b : Bool} {d e : D} {ds es : List D} {l : Nat} {c c' n m : Str} {fs : List (Str × D)}
theorem addS_lst (h : ds.length + es.length ≤ zLine) : addS S (.lst ds) (.lst es) = some (.lst (ds ++ es)) := if_pos h
theorem addS_tup (h : ds.length + es.length ≤ zLine) : addS S (.tup ds) (.tup es) = some (.tup (ds ++ es)) := if_pos h
theorem addS_str (h : x.length + y.length ≤ zLine) : addS S (.str x) (.str y) = some (.str (x ++ y)) := if_pos h
@[simp] theorem negS_int : negS S (.int i) = some (.int (-i)) := rfl
@[simp] theorem notS_bl : notS S (.bl a) = some (.bl (!a)) := rfl
@[simp] theorem bV_bl : bV (.bl a) = some a := rfl
@[simp] theorem iV_int : iV (.int i) = some i := rfl
@[simp] theorem truS_bl : truS S (.bl a) = some a := rfl
@[simp] theorem truS_int : truS S (.int i) = some (i != 0) := rfl
@[simp] theorem truS_non : truS S .non = some false := rfl
@[simp] theorem truS_str : truS S (.str x) = some (!x.isEmpty) := rfl
@[simp] theorem truS_tup : truS S (.tup ds) = some (!ds.isEmpty) := rfl
@[simp] theorem truS_lst : truS S (.lst ds) = some (!ds.isEmpty) := rfl
@[simp] theorem seqF_tup : seqF (.tup ds) = some ds := rfl
@[simp] theorem seqF_lst : seqF (.lst ds) = some ds := rfl
def cellSeq : Option Cell → Option (List D)
  | some (.lst ds) => some ds
  | _ => none
@[simp] theorem cellSeq_lst : cellSeq (some (.lst ds)) = some ds := rfl
@[simp] theorem seqS_tup : seqS S (.tup ds) = some ds := rfl
@[simp] theorem seqS_lst : seqS S (.lst ds) = some ds := rfl
@[simp] theorem seqS_obj : seqS S (.obj l) = cellSeq S[l]? := rfl
def cellIns (c : Str) : Option Cell → Option (List (Str × D))
  | some (.ins c' fs) => if c' = c then some fs else none
  | _ => none
@[simp] theorem cellIns_ins : cellIns c (some (.ins c' fs)) = if c' = c then some fs else none := rfl
@[simp] theorem insF_obj : insF c S (.obj l) = cellIns c S[l]? := rfl
@[simp] theorem fldS_at : fldS c n S d = (insF c S d).bind fun fs => fs.lookup n := rfl
@[simp] theorem insM_at : insM c m S d = (insF c S d).bind fun fs => if (fs.lookup m).isNone = true then some () else none := rfl
@[simp] theorem setF_obj : setF c n e S (.obj l) = (cellIns c S[l]?).bind fun fs => if fs.length < 1000 then some (S.set l (.ins c (putA n e fs))) else none := by
  show (match S[l]? with
    | some (.ins c' fs) => if c' = c ∧ fs.length < 1000 then some (S.set l (.ins c (putA n e fs))) else none
    | _ => none) = _
  cases S[l]? with
  | none => rfl
  | some k =>
    cases k with
    | ins c' fs =>
      show (if c' = c ∧ fs.length < 1000 then _ else none) = (if c' = c then some fs else none).bind _
      by_cases h1 : c' = c <;> by_cases h2 : fs.length < 1000 <;> simp [h1, h2]
    | lst ds => rfl
    | dic ds => rfl
@[simp] theorem setIx_obj : setIx d S (.obj l) (.int i) = (cellSeq S[l]?).bind fun ds => (ixNat ds.length i).map fun j => S.set l (.lst (ds.set j d)) := by
  show (match S[l]? with
    | some (.lst ds) => (ixNat ds.length i).map fun j => S.set l (.lst (ds.set j d))
    | _ => none) = _
  cases S[l]? with
  | none => rfl
  | some k => cases k <;> rfl
@[simp] theorem ixS_tup : ixS S (.tup ds) (.int i) = atL ds i := rfl
@[simp] theorem ixS_lst : ixS S (.lst ds) (.int i) = atL ds i := rfl
@[simp] theorem ixS_str : ixS S (.str x) (.int i) = (atL x i).map fun c => .str [c] := rfl
@[simp] theorem ixS_obj : ixS S (.obj l) (.int i) = (cellSeq S[l]?).bind fun ds => atL ds i := rfl
@[simp] theorem cutS_str {lo hi : Option Int} : cutS lo hi S (.str x) = some (.str (cut x lo hi)) := rfl
@[simp] theorem cutS_tup {lo hi : Option Int} : cutS lo hi S (.tup ds) = some (.tup (cut ds lo hi)) := rfl
@[simp] theorem cutS_lst {lo hi : Option Int} : cutS lo hi S (.lst ds) = some (.lst (cut ds lo hi)) := rfl
section
variable {α : Type} {u v w z : α} {us : List α}
@[simp] theorem atL_0 : atL (u :: us) 0 = some u := by simp [atL, ixNat]
@[simp] theorem atL_1 : atL (u :: v :: us) 1 = some v := by
  have := @atL_nat α (u :: v :: us) 1
  simpa using this
@[simp] theorem atL_2 : atL (u :: v :: w :: us) 2 = some w := by
  have := @atL_nat α (u :: v :: w :: us) 2
  simpa using this
@[simp] theorem atL_3 : atL (u :: v :: w :: z :: us) 3 = some z := by
  have := @atL_nat α (u :: v :: w :: z :: us) 3
  simpa using this
end
theorem ixNat_nat {k n : Nat} (h : k < n) : ixNat n (k : Int) = some k := by
  unfold ixNat
  rw [if_pos (by omega), if_pos (by omega)]
  rfl
@[simp] theorem ixNat_0 {n : Nat} : ixNat (n + 1) 0 = some 0 := ixNat_nat (k := 0) (by omega)
@[simp] theorem ixNat_1 {n : Nat} : ixNat (n + 1 + 1) 1 = some 1 := ixNat_nat (k := 1) (by omega)
@[simp] theorem ixNat_2 {n : Nat} : ixNat (n + 1 + 1 + 1) 2 = some 2 := ixNat_nat (k := 2) (by omega)
@[simp] theorem lenC_tup : lenC S [.tup ds] = some (.int ds.length) := rfl
@[simp] theorem lenC_lst : lenC S [.lst ds] = some (.int ds.length) := rfl
@[simp] theorem lenC_str : lenC S [.str x] = some (.int x.length) := rfl
@[simp] theorem intC_int : intC S [.int i] = some (.int i) := rfl
@[simp] theorem intC_bl : intC S [.bl a] = some (.int (if a then 1 else 0)) := rfl
@[simp] theorem max2_int : max2C S [.int i, .int j] = some (.int (if j > i then j else i)) := rfl
@[simp] theorem min2_int : min2C S [.int i, .int j] = some (.int (if j < i then j else i)) := rfl
@[simp] theorem listC_tup : listC S [.tup ds] = some (.lst ds) := rfl
@[simp] theorem listC_lst : listC S [.lst ds] = some (.lst ds) := rfl
@[simp] theorem tupleC_tup : tupleC S [.tup ds] = some (.tup ds) := rfl
@[simp] theorem tupleC_lst : tupleC S [.lst ds] = some (.tup ds) := rfl
@[simp] theorem tupleC_obj : tupleC S [.obj l] = (cellSeq S[l]?).map .tup := rfl
@[simp] theorem listC_obj : listC S [.obj l] = (cellSeq S[l]?).map .lst := rfl
theorem bls_map {α : Type} (f : α → Bool) : ∀ us : List α, bls (us.map fun u => .bl (f u)) = some (us.map f)
  | [] => rfl
  | u :: us => by
    have := bls_map f us
    simp only [List.map_cons]
    unfold bls
    simp [this]
theorem ofBls_map {α : Type} {k : List Bool → D} {f : α → Bool} {us : List α} : ofBls k S [.lst (us.map fun u => .bl (f u))] = some (k (us.map f)) := by
  show (bls _).map k = _
  rw [bls_map]
  rfl
theorem neS_tups (h : ds.all (py 39) = true) (h2 : es.all (py 39) = true) : neS S (.tup ds) (.tup es) = some (.bl (!eqvs ds es)) := by
  have h3 : (py 40 (.tup ds) && py 40 (.tup es)) = true := by
    rw [Bool.and_eq_true]
    exact ⟨h, h2⟩
  show (if _ then _ else _) = _
  rw [if_pos h3]
  rfl
theorem eqS_tups (h : ds.all (py 39) = true) (h2 : es.all (py 39) = true) : eqS S (.tup ds) (.tup es) = some (.bl (eqvs ds es)) := by
  have h3 : (py 40 (.tup ds) && py 40 (.tup es)) = true := by
    rw [Bool.and_eq_true]
    exact ⟨h, h2⟩
  show (if _ then _ else _) = _
  rw [if_pos h3]
  rfl
theorem neS_lsts (h : ds.all (py 39) = true) (h2 : es.all (py 39) = true) : neS S (.lst ds) (.lst es) = some (.bl (!eqvs ds es)) := neS_tups (S := S) h h2
theorem eqS_lsts (h : ds.all (py 39) = true) (h2 : es.all (py 39) = true) : eqS S (.lst ds) (.lst es) = some (.bl (eqvs ds es)) := eqS_tups (S := S) h h2
end
section
variable {S : Sto} {i j : Int} {x y : List Nat} {ds es : List D}
@[simp] theorem ofString_inj {a b : String} : (Str.ofString a = Str.ofString b) ↔ a = b := by
  constructor
  · intro h
    rw [Str.ofString_eq_toList, Str.ofString_eq_toList] at h
    have h2 : a.toList.map Char.toNat = b.toList.map Char.toNat := by
      have := congrArg (fun s : Str => s.cps.toList) h
      simpa using this
    have inj : Function.Injective Char.toNat := fun x y hxy => Char.ext (UInt32.toNat.inj hxy)
    exact String.toList_inj.mp ((List.map_inj_right fun x y hxy => inj hxy).mp h2)
  · exact fun h => by rw [h]
@[simp] theorem lookup_at {a k : Str} {d : D} {fs : List (Str × D)} : List.lookup a ((k, d) :: fs) = if a = k then some d else fs.lookup a := by
  rw [List.lookup_cons]
  by_cases h : a = k
  · simp [h]
  · have : (a == k) = false := by simpa using h
    simp [h, this]
@[simp] theorem lookup_nil {a : Str} : List.lookup a ([] : List (Str × D)) = none := rfl
@[simp] theorem eqD_int : eqS S (.int i) (.int j) = some (.bl (decide (i = j))) := by rw [eqS_int]; by_cases h : i = j <;> simp [h]
@[simp] theorem neD_int : neS S (.int i) (.int j) = some (.bl (!decide (i = j))) := by rw [neS_int]; by_cases h : i = j <;> simp [h]
@[simp] theorem eqD_str : eqS S (.str x) (.str y) = some (.bl (decide (x = y))) := by rw [eqS_str]; by_cases h : x = y <;> simp [h]
@[simp] theorem neD_str : neS S (.str x) (.str y) = some (.bl (!decide (x = y))) := by rw [neS_str]; by_cases h : x = y <;> simp [h]
theorem divmod_int (h : 0 < j) (h2 : j < 1073741824) : divmodC S [.int i, .int j] = some (.tup [.int (i / j), .int (i % j)]) := if_pos ⟨h, h2⟩
@[simp] theorem recS_str : recS .str S (.str x) = some () := rfl
theorem rangeS_1 (h : i < 2 ^ 62) (h2 : -(2 ^ 62) ≤ i) : rangeS [.int i] = some (upto 0 i.toNat) := if_pos ⟨h, h2⟩
theorem rangeS_2 (h : i < 2 ^ 62) (h2 : -(2 ^ 62) ≤ i) (h3 : j < 2 ^ 62) (h4 : -(2 ^ 62) ≤ j) : rangeS [.int i, .int j] = some (upto i (j - i).toNat) := if_pos ⟨h, h2, h3, h4⟩
theorem rangeS_3 {k : Int} (h : i < 2 ^ 60) (h2 : -(2 ^ 60) ≤ i) (h3 : j < 2 ^ 60) (h4 : -(2 ^ 60) ≤ j) (h5 : 0 < k) (h6 : k < 1073741824) : rangeS [.int i, .int j, .int k] = some (stepTo i k (if i < j then ((j - i - 1) / k + 1).toNat else 0)) := if_pos ⟨h, h2, h3, h4, h5, h6⟩
@[simp] theorem inS_str1 {k : Nat} : inS S (.str [k]) (.str y) = some (.bl (y.contains k)) := rfl
@[simp] theorem zipS_tup : zipS [.tup ds, .tup es] = some (zipD ds es) := rfl
@[simp] theorem zipS_lst : zipS [.lst ds, .lst es] = some (zipD ds es) := rfl
theorem zipD_self : ∀ ds : List D, zipD ds ds = ds.map fun d => .tup [d, d]
  | [] => rfl
  | d :: ds => by
    show _ :: zipD ds ds = _ :: ds.map _
    rw [zipD_self ds]
theorem joinL_ones : ∀ x : List Nat, TL.joinL [] (x.map fun k => [k]) = x
  | [] => rfl
  | [k] => rfl
  | k :: k2 :: x => by
    show [k] ++ [] ++ TL.joinL [] ((k2 :: x).map fun k => [k]) = _
    rw [joinL_ones (k2 :: x)]
    rfl
theorem txs_strs : ∀ xs : List (List Nat), txs (xs.map D.str) = some xs
  | [] => rfl
  | x :: xs => by
    show (txs (xs.map D.str)).map (x :: ·) = _
    rw [txs_strs xs]
    rfl
theorem joinM_ones (h : x.length ≤ zLine) : joinM S (.str []) [.lst (x.map fun k => .str [k])] = some (.str x) := by
  have h1 : (x.map fun k => D.str [k]) = (x.map fun k => [k]).map D.str := by rw [List.map_map]; rfl
  have h2 : ((x.map fun k => [k]).map List.length).sum = x.length := by
    clear h h1
    induction x with
    | nil => rfl
    | cons k x ih => simp only [List.map_cons, List.sum_cons, ih, List.length_cons, List.length_nil]; omega
  rw [h1]
  show ((txs ((x.map fun k => [k]).map D.str)).bind fun ys => if (ys.map List.length).sum + ys.length * 0 ≤ zLine then some (D.str (TL.joinL [] ys)) else none) = _
  rw [txs_strs]
  show (if _ then _ else _) = _
  rw [if_pos (by rw [h2]; omega), joinL_ones]
theorem enumL_zip : ∀ (ds : List D) (k : Nat), enumL k ds = (ds.zipIdx k).map fun q => .tup [.int (q.2 : Int), q.1]
  | [], _ => rfl
  | d :: ds, k => by
    show _ :: enumL (k + 1) ds = _
    rw [enumL_zip ds (k + 1)]
    rfl
@[simp] theorem forGo_nil {t : Tg} {b : Sv} {ρ : DL.Env} : forGo t b [] ρ S = .ok (.nx ρ) S := rfl
end
@[simp] theorem ty_non_non : isTy .non .non = true := rfl
@[simp] theorem ty_non_bl : isTy .non .bl = false := rfl
@[simp] theorem ty_non_int : isTy .non .int = false := rfl
@[simp] theorem ty_non_str : isTy .non .str = false := rfl
@[simp] theorem ty_non_tup : isTy .non .tup = false := rfl
@[simp] theorem ty_non_lst : isTy .non .lst = false := rfl
@[simp] theorem ty_non_dic : isTy .non .dic = false := rfl
@[simp] theorem ty_bl_non : isTy .bl .non = false := rfl
@[simp] theorem ty_bl_bl : isTy .bl .bl = true := rfl
@[simp] theorem ty_bl_int : isTy .bl .int = false := rfl
@[simp] theorem ty_bl_str : isTy .bl .str = false := rfl
@[simp] theorem ty_bl_tup : isTy .bl .tup = false := rfl
@[simp] theorem ty_bl_lst : isTy .bl .lst = false := rfl
@[simp] theorem ty_bl_dic : isTy .bl .dic = false := rfl
@[simp] theorem ty_int_non : isTy .int .non = false := rfl
@[simp] theorem ty_int_bl : isTy .int .bl = true := rfl
@[simp] theorem ty_int_int : isTy .int .int = true := rfl
@[simp] theorem ty_int_str : isTy .int .str = false := rfl
@[simp] theorem ty_int_tup : isTy .int .tup = false := rfl
@[simp] theorem ty_int_lst : isTy .int .lst = false := rfl
@[simp] theorem ty_int_dic : isTy .int .dic = false := rfl
@[simp] theorem ty_str_non : isTy .str .non = false := rfl
@[simp] theorem ty_str_bl : isTy .str .bl = false := rfl
@[simp] theorem ty_str_int : isTy .str .int = false := rfl
@[simp] theorem ty_str_str : isTy .str .str = true := rfl
@[simp] theorem ty_str_tup : isTy .str .tup = false := rfl
@[simp] theorem ty_str_lst : isTy .str .lst = false := rfl
@[simp] theorem ty_str_dic : isTy .str .dic = false := rfl
@[simp] theorem ty_tup_non : isTy .tup .non = false := rfl
@[simp] theorem ty_tup_bl : isTy .tup .bl = false := rfl
@[simp] theorem ty_tup_int : isTy .tup .int = false := rfl
@[simp] theorem ty_tup_str : isTy .tup .str = false := rfl
@[simp] theorem ty_tup_tup : isTy .tup .tup = true := rfl
@[simp] theorem ty_tup_lst : isTy .tup .lst = false := rfl
@[simp] theorem ty_tup_dic : isTy .tup .dic = false := rfl
@[simp] theorem ty_lst_non : isTy .lst .non = false := rfl
@[simp] theorem ty_lst_bl : isTy .lst .bl = false := rfl
@[simp] theorem ty_lst_int : isTy .lst .int = false := rfl
@[simp] theorem ty_lst_str : isTy .lst .str = false := rfl
@[simp] theorem ty_lst_tup : isTy .lst .tup = false := rfl
@[simp] theorem ty_lst_lst : isTy .lst .lst = true := rfl
@[simp] theorem ty_lst_dic : isTy .lst .dic = false := rfl
@[simp] theorem ty_dic_non : isTy .dic .non = false := rfl
@[simp] theorem ty_dic_bl : isTy .dic .bl = false := rfl
@[simp] theorem ty_dic_int : isTy .dic .int = false := rfl
@[simp] theorem ty_dic_str : isTy .dic .str = false := rfl
@[simp] theorem ty_dic_tup : isTy .dic .tup = false := rfl
@[simp] theorem ty_dic_lst : isTy .dic .lst = false := rfl
@[simp] theorem ty_dic_dic : isTy .dic .dic = true := rfl
/-! ### what comes out -/
section
variable {α β : Type} {r : Res α} {f : α → Sto → Res β} {P Q : α → Sto → Prop} {R : β → Sto → Prop} {u : α} {S : Sto}
def OkP (r : Res α) (Q : α → Sto → Prop) : Prop := match r with
  | .ok a S => Q a S
  | _ => False
structure Ok (r : Res α) (Q : α → Sto → Prop) : Prop where
  h : OkP r Q
theorem ok_ok (h : Q u S) : Ok (.ok u S) Q := ⟨h⟩
theorem Ok.val (h : Ok (.ok u S) Q) : Q u S := h.h
theorem ok_of (h : Ok r P) (k : ∀ a S, P a S → Q a S) : Ok r Q := by
  obtain ⟨h⟩ := h
  cases r with
  | ok a S => exact ⟨k a S h⟩
  | exc e S => exact h.elim
  | bad => exact h.elim
theorem ok_bind (h : Ok r P) (k : ∀ a S, P a S → Ok (f a S) R) : Ok (r.bind f) R := by
  obtain ⟨h⟩ := h
  cases r with
  | ok a S => exact k a S h
  | exc e S => exact h.elim
  | bad => exact h.elim
theorem ok_eq (h : r = .ok u S) (q : Q u S) : Ok r Q := by rw [h]; exact ⟨q⟩
theorem Ok.ex (h : Ok r Q) : ∃ a S, r = .ok a S ∧ Q a S := by
  obtain ⟨h⟩ := h
  cases r with
  | ok a S => exact ⟨a, S, rfl, h⟩
  | exc e S => exact h.elim
  | bad => exact h.elim
theorem Ok_congr {r r' : Res α} {Q : α → Sto → Prop} (h : r = r') : Ok r Q = Ok r' Q := by rw [h]
end
theorem ok_gen {α : Type} {r : Res α} {Q : α → Sto → Prop} (h : ∀ Q' : α → Sto → Prop, (∀ a S, Q a S → Q' a S) → Ok r Q') : Ok r Q := h Q fun _ _ h => h
theorem ok_ent {m : Nat} {b : Sv} {ss : List Slot} {S : Sto} {Q : D → Sto → Prop} (h : Ok ((b (ss ++ List.replicate m .un) S).bind finK) Q) : Ok (fnM m b ss S) Q := h
theorem eq_ent {m : Nat} {b : Sv} {ss : List Slot} {S : Sto} {r : Res D} (h : ((b (ss ++ List.replicate m .un) S).bind finK) = r) : fnM m b ss S = r := h
theorem ok_for {t : Tg} {b : Sv} (I : List D → DL.Env → Sto → Prop) (h : ∀ d ds ρ S, I (d :: ds) ρ S → ∃ ρ1, t.put d ρ = some ρ1 ∧ ∀ Q : Fl → Sto → Prop, (∀ ρ2 S', I ds ρ2 S' → Q (.nx ρ2) S' ∧ Q (.ct ρ2) S') → Ok (b ρ1 S) Q) :
    ∀ {ds : List D} {ρ : DL.Env} {S : Sto}, I ds ρ S → Ok (forGo t b ds ρ S) fun f S' => ∃ ρ', f = .nx ρ' ∧ I [] ρ' S'
  | [], ρ, S, i => ok_ok ⟨ρ, rfl, i⟩
  | d :: ds, ρ, S, i => by
    obtain ⟨ρ1, h1, h2⟩ := h d ds ρ S i
    obtain ⟨fl, S2, h3, ρ2, hf, i2⟩ := (h2 (fun f S' => ∃ ρ2, (f = .nx ρ2 ∨ f = .ct ρ2) ∧ I ds ρ2 S') fun ρ2 S' i => ⟨⟨ρ2, .inl rfl, i⟩, ρ2, .inr rfl, i⟩).ex
    have ih := ok_for I h i2
    obtain ⟨f4, S', h5, h6⟩ := ih.ex
    refine ok_eq (u := f4) (S := S') ?_ h6
    unfold forGo
    rcases hf with rfl | rfl <;> simp [h1, h3, h5]
/-- a loop that may return -/
theorem ok_forR {t : Tg} {b : Sv} {R : Fl → Sto → Prop} (I : List D → DL.Env → Sto → Prop) (h : ∀ d ds ρ S, I (d :: ds) ρ S → ∃ ρ1, t.put d ρ = some ρ1 ∧ ∀ Q : Fl → Sto → Prop, (∀ ρ2 S', I ds ρ2 S' → Q (.nx ρ2) S' ∧ Q (.ct ρ2) S') → (∀ d S', R (.rt d) S' → Q (.rt d) S') → (∀ ρ2 S', R (.nx ρ2) S' → Q (.bk ρ2) S') → Ok (b ρ1 S) Q) (h0 : ∀ ρ S, I [] ρ S → R (.nx ρ) S) :
    ∀ {ds : List D} {ρ : DL.Env} {S : Sto}, I ds ρ S → Ok (forGo t b ds ρ S) R
  | [], ρ, S, i => ok_ok (h0 ρ S i)
  | d :: ds, ρ, S, i => by
    obtain ⟨ρ1, h1, h2⟩ := h d ds ρ S i
    obtain ⟨fl, S2, h3, h4⟩ := (h2 (fun f S' => (∃ ρ2, (f = .nx ρ2 ∨ f = .ct ρ2) ∧ I ds ρ2 S') ∨ (∃ d, f = .rt d ∧ R f S') ∨ (∃ ρ2, f = .bk ρ2 ∧ R (.nx ρ2) S')) (fun ρ2 S' i => ⟨.inl ⟨ρ2, .inl rfl, i⟩, .inl ⟨ρ2, .inr rfl, i⟩⟩) (fun d S' r => .inr (.inl ⟨d, rfl, r⟩)) fun ρ2 S' r => .inr (.inr ⟨ρ2, rfl, r⟩)).ex
    rcases h4 with ⟨ρ2, hf, i2⟩ | ⟨d', rfl, r⟩ | ⟨ρ2, rfl, r⟩
    · obtain ⟨f4, S', h5, h6⟩ := (ok_forR I h h0 i2).ex
      refine ok_eq (u := f4) (S := S') ?_ h6
      unfold forGo
      rcases hf with rfl | rfl <;> simp [h1, h3, h5]
    · refine ok_eq (u := .rt d') (S := S2) ?_ r
      unfold forGo
      simp [h1, h3]
    · refine ok_eq (u := .nx ρ2) (S := S2) ?_ r
      unfold forGo
      simp [h1, h3]
/-- without a test -/
theorem lcGo_map {t : Tg} {e : Ev} {own : List Nat} {ρ : DL.Env} {S : Sto} (f : D → D) : ∀ ds : List D, (∀ d ∈ ds, ∃ ρ1, t.put d (wipe ρ own) = some ρ1 ∧ e ρ1 S = .ok (f d) S) →
    lcGo t tYes e own ρ ds S = .ok (ds.map f) S := fun ds h => by
  have := lcGo_pure (t := t) (c := tYes) (e := e) (own := own) (ρ := ρ) (S := S) (fun _ => true) f ds fun d hd => by
    obtain ⟨ρ1, h1, h2⟩ := h d hd
    exact ⟨ρ1, h1, rfl, fun _ => h2⟩
  rw [this, List.filter_eq_self.mpr fun _ _ => rfl]
theorem lc_map {t : Tg} {e : Ev} {own : List Nat} {ρ : DL.Env} {S : Sto} {it : It} {us : List D} (f : D → D) (hi : it ρ S = .ok us S) (hz : us.length ≤ zLine) (h : ∀ d ∈ us, ∃ ρ1, t.put d (wipe ρ own) = some ρ1 ∧ e ρ1 S = .ok (f d) S) :
    eLc t it tYes e own ρ S = .ok (.lst (us.map f)) S := by
  rw [eLc_at, hi, Res.bind_ok, eLc_k1_at, if_pos hz, lcGo_map f us h]
  rfl
/-- items by an index -/
theorem lc_mapG {α : Type} {t : Tg} {e : Ev} {own : List Nat} {ρ : DL.Env} {S : Sto} {it : It} {us : List α} (g f : α → D) (hi : it ρ S = .ok (us.map g) S) (hz : us.length ≤ zLine) (h : ∀ u ∈ us, ∃ ρ1, t.put (g u) (wipe ρ own) = some ρ1 ∧ e ρ1 S = .ok (f u) S) :
    eLc t it tYes e own ρ S = .ok (.lst (us.map f)) S := by
  rw [eLc_at, hi, Res.bind_ok, eLc_k1_at, if_pos (by simpa using hz)]
  have : lcGo t tYes e own ρ (us.map g) S = .ok (us.map f) S := by
    clear hi hz
    induction us with
    | nil => rfl
    | cons u us ih =>
      obtain ⟨ρ1, h1, h2⟩ := h u List.mem_cons_self
      have ih := ih fun u hu => h u (List.mem_cons_of_mem _ hu)
      simp only [List.map_cons]
      unfold lcGo
      simp [h1, h2, ih, tYes]
  rw [this]
  rfl
theorem ok_lc {t : Tg} {c : Tv} {e : Ev} {own : List Nat} {ρ : DL.Env} (I : List D → List D → Sto → Prop)
    (h : ∀ d ds acc S, I (d :: ds) acc S → ∃ ρ1, t.put d (wipe ρ own) = some ρ1 ∧ Ok (c ρ1 S) fun k S1 => if k = true then Ok (e ρ1 S1) fun y S2 => I ds (acc ++ [y]) S2 else I ds acc S1) :
    ∀ {ds acc : List D} {S : Sto}, I ds acc S → Ok (lcGo t c e own ρ ds S) fun ys S' => I [] (acc ++ ys) S'
  | [], acc, S, i => by
    refine ok_ok ?_
    show I [] (acc ++ []) S
    rw [List.append_nil]
    exact i
  | d :: ds, acc, S, i => by
    obtain ⟨ρ1, h1, h2⟩ := h d ds acc S i
    obtain ⟨k, S1, h3, h4⟩ := h2.ex
    cases k with
    | true =>
      rw [if_pos rfl] at h4
      obtain ⟨y, S2, h5, i2⟩ := h4.ex
      obtain ⟨ys, S', h6, i3⟩ := (ok_lc I h i2).ex
      refine ok_eq (u := y :: ys) (S := S') ?_ (by simpa using i3)
      unfold lcGo
      simp [h1, h3, h5, h6]
    | false =>
      rw [if_neg (by decide)] at h4
      obtain ⟨ys, S', h6, i3⟩ := (ok_lc I h h4).ex
      refine ok_eq (u := ys) (S := S') ?_ i3
      unfold lcGo
      simp [h1, h3, h6]
/-- a comprehension without a test, by an invariant -/
theorem ok_lcY {t : Tg} {e : Ev} {own : List Nat} {ρ : DL.Env} {it : It} {S : Sto} {us : List D} (I : List D → List D → Sto → Prop) (hi : it ρ S = .ok us S) (hz : us.length ≤ zLine) (i : I us [] S)
    (h : ∀ d ds acc S, I (d :: ds) acc S → ∃ ρ1, t.put d (wipe ρ own) = some ρ1 ∧ ∀ Q : D → Sto → Prop, (∀ y S2, I ds (acc ++ [y]) S2 → Q y S2) → Ok (e ρ1 S) Q) :
    Ok (eLc t it tYes e own ρ S) fun d S' => ∃ ys, d = .lst ys ∧ I [] ys S' := by
  rw [eLc_at, hi, Res.bind_ok, eLc_k1_at, if_pos hz]
  obtain ⟨ys, S', h1, h2⟩ := (ok_lc (c := tYes) I (fun d ds acc S i => by
    obtain ⟨ρ1, h1, h2⟩ := h d ds acc S i
    exact ⟨ρ1, h1, ok_ok (by rw [if_pos rfl]; exact h2 _ fun y S2 i => i)⟩) i).ex
  rw [h1]
  exact ok_ok ⟨ys, rfl, by simpa using h2⟩
theorem ok_lcK {t : Tg} {e : Ev} {own : List Nat} {ρ : DL.Env} {S : Sto} {us : List D} (I : List D → List D → Sto → Prop) (hz : us.length ≤ zLine) (i : I us [] S)
    (h : ∀ d ds acc S, I (d :: ds) acc S → ∃ ρ1, t.put d (wipe ρ own) = some ρ1 ∧ ∀ Q : D → Sto → Prop, (∀ y S2, I ds (acc ++ [y]) S2 → Q y S2) → Ok (e ρ1 S) Q) :
    Ok (eLc_k1 t tYes e own ρ us S) fun d S' => ∃ ys, d = .lst ys ∧ I [] ys S' := ok_lcY (it := fun _ S => .ok us S) I rfl hz i h
theorem upto_succ {i : Int} {n : Nat} : upto i (n + 1) = .int i :: upto (i + 1) n := by
  unfold upto
  rw [List.range_succ_eq_map, List.map_cons, List.map_map]
  congr 1
  · simp
  · refine List.map_congr_left fun k _ => ?_
    show D.int (i + ((k + 1 : Nat) : Int)) = _
    congr 1
    omega
theorem upto_zero {i : Int} : upto i 0 = [] := rfl
theorem sIx_pos {n d : Nat} {v : Int} (h : 0 ≤ v) : sIx n d (some v) = min v.toNat n := by
  show (if v < 0 then _ else _) = _
  rw [if_neg (by omega)]
theorem sIx_none {n d : Nat} : sIx n d none = d := rfl
theorem cutLen {α : Type} {xs : List α} {a b : Int} (h : 0 ≤ a) (h2 : 0 ≤ b) : (cut xs (some a) (some b)).length = min b.toNat xs.length - min a.toNat xs.length := by
  unfold cut
  rw [sIx_pos h, sIx_pos h2, List.length_take, List.length_drop]
  omega
theorem cutMem {α : Type} {xs : List α} {lo hi : Option Int} {u : α} (h : u ∈ cut xs lo hi) : u ∈ xs := List.mem_of_mem_drop (List.mem_of_mem_take h)
@[simp] theorem range2 : List.range 2 = [0, 1] := rfl
@[simp] theorem range1 : List.range 1 = [0] := rfl
@[simp] theorem range3 : List.range 3 = [0, 1, 2] := rfl
@[simp] theorem eqI_obj {c : Str} {S : Sto} {a b : Nat} : eqI c S (.obj a) (.obj b) = (cellIns c S[a]?).bind fun _ => (cellIns c S[b]?).bind fun _ => some (.bl (decide (a = b))) := by
  unfold eqI
  rw [insF_obj, insF_obj]
  cases cellIns c S[a]? <;> cases cellIns c S[b]? <;> first | rfl | (by_cases h : a = b <;> simp [h])
@[simp] theorem neI_obj {c : Str} {S : Sto} {a b : Nat} : neI c S (.obj a) (.obj b) = (cellIns c S[a]?).bind fun _ => (cellIns c S[b]?).bind fun _ => some (.bl (!decide (a = b))) := by
  unfold neI
  rw [insF_obj, insF_obj]
  cases cellIns c S[a]? <;> cases cellIns c S[b]? <;> first | rfl | (by_cases h : a = b <;> simp [h])
theorem forGo_nx {t : Tg} {b : Sv} {d : D} {ds : List D} {ρ ρ1 ρ2 : DL.Env} {S S2 : Sto} (h1 : t.put d ρ = some ρ1) (h2 : b ρ1 S = .ok (.nx ρ2) S2) : forGo t b (d :: ds) ρ S = forGo t b ds ρ2 S2 := by
  rw [forGo, h1, opt_some, Res.bind_ok, h2, Res.bind_ok]
/-! ### pieces -/
@[simp] theorem slK_t {d : D} : slK true d = .ow d := rfl
@[simp] theorem slK_f {d : D} : slK false d = .fz d := rfl
@[simp] theorem permV_at {α : Type} {ord : List Nat} {l : List α} : permV ord l = ord.filterMap fun i => l[i]? := rfl
@[simp] theorem put_nm {i : Nat} {d : D} {ρ : DL.Env} : Tg.put (.nm i) d ρ = some (ρ.set i (.fz d)) := rfl
@[simp] theorem put_tp {ts : List Tg} {ds : List D} {ρ : DL.Env} : Tg.put (.tp ts) (.tup ds) ρ = Tg.puts ts ds ρ := rfl
@[simp] theorem puts_nil {ρ : DL.Env} : Tg.puts [] [] ρ = some ρ := rfl
@[simp] theorem puts_cons {t : Tg} {d : D} {ts : List Tg} {ds : List D} {ρ : DL.Env} : Tg.puts (t :: ts) (d :: ds) ρ = (t.put d ρ).bind fun ρ1 => Tg.puts ts ds ρ1 := rfl
@[simp] theorem wipe_nil {ρ : DL.Env} : wipe ρ [] = ρ := rfl
@[simp] theorem wipe_cons {ρ : DL.Env} {v : Nat} {vs : List Nat} : wipe ρ (v :: vs) = (wipe ρ vs).set v .un := rfl
@[simp] theorem putA_nil {n : Str} {y : D} : putA n y [] = [(n, y)] := rfl
@[simp] theorem putA_cons {n k : Str} {y x : D} {r : List (Str × D)} : putA n y ((k, x) :: r) = if k = n then (k, y) :: r else (k, x) :: putA n y r := rfl
end DL

set_option Elab.async false
set_option linter.all false
set_option maxRecDepth 100000
set_option maxHeartbeats 4000000
namespace K63
open PySem PySem.Spec PyProof.Rows L2 NdefX LamX DL
def top (i : Nat) : Stmt := PySem.Challenge.pw_doveposts_k63_whole_chances_and_mean_num.main.body.getD i (.Pass ⟨0, 0, 0, 0⟩)
abbrev KK : Nat := 5
abbrev G (P : Program) (w : World) (K : PySem.W.Frag) (mg : Str → Option Value) (base : Heap) (T : List NTab) : Gb := ⟨P, w, K, mg, base, T, KK, none⟩
structure Fx (K : PySem.W.Frag) (mg : Str → Option Value) (base : Heap) (T : List NTab) : Prop where
  n_range : mg "range" = none
  n_divmod : mg "divmod" = none
  n_int : mg "int" = none
  f__law_draw : ∃ fd, FunD K "_law_draw" "_law_draw" (defArgs (top 63)) (defBody (top 63)) (defScope (top 63)) [] [] (He.ga K "_law_draw") fd
  g__law_draw : mg "_law_draw" = some (.ref (He.ga K "_law_draw"))
  f__law_lowest : ∃ fd, FunD K "_law_lowest" "_law_lowest" (defArgs (top 67)) (defBody (top 67)) (defScope (top 67)) [] [] (He.ga K "_law_lowest") fd
  g__law_lowest : mg "_law_lowest" = some (.ref (He.ga K "_law_lowest"))
  f__law_comes : ∃ fd, FunD K "_law_comes" "_law_comes" (defArgs (top 72)) (defBody (top 72)) (defScope (top 72)) [] [] (He.ga K "_law_comes") fd
  g__law_comes : mg "_law_comes" = some (.ref (He.ga K "_law_comes"))
  n_len : mg "len" = none
  f__law_chosen : ∃ fd, FunD K "_law_chosen" "_law_chosen" (defArgs (top 74)) (defBody (top 74)) (defScope (top 74)) [] [] (He.ga K "_law_chosen") fd
  g__law_chosen : mg "_law_chosen" = some (.ref (He.ga K "_law_chosen"))
  f__law_times : ∃ fd, FunD K "_law_times" "_law_times" (defArgs (top 69)) (defBody (top 69)) (defScope (top 69)) [] [] (He.ga K "_law_times") fd
  g__law_times : mg "_law_times" = some (.ref (He.ga K "_law_times"))
  f__law_power : ∃ fd, FunD K "_law_power" "_law_power" (defArgs (top 71)) (defBody (top 71)) (defScope (top 71)) [] [] (He.ga K "_law_power") fd
  g__law_power : mg "_law_power" = some (.ref (He.ga K "_law_power"))
  f__law_less : ∃ fd, FunD K "_law_less" "_law_less" (defArgs (top 70)) (defBody (top 70)) (defScope (top 70)) [] [] (He.ga K "_law_less") fd
  g__law_less : mg "_law_less" = some (.ref (He.ga K "_law_less"))
  f__law_added : ∃ fd, FunD K "_law_added" "_law_added" (defArgs (top 68)) (defBody (top 68)) (defScope (top 68)) [] [] (He.ga K "_law_added") fd
  g__law_added : mg "_law_added" = some (.ref (He.ga K "_law_added"))
  f__law_mean : ∃ fd, FunD K "_law_mean" "_law_mean" (defArgs (top 75)) (defBody (top 75)) (defScope (top 75)) [] [] (He.ga K "_law_mean") fd
  g__law_mean : mg "_law_mean" = some (.ref (He.ga K "_law_mean"))
  f__law_mean_on : ∃ fd, FunD K "_law_mean_on" "_law_mean_on" (defArgs (top 76)) (defBody (top 76)) (defScope (top 76)) [] [] (He.ga K "_law_mean_on") fd
  g__law_mean_on : mg "_law_mean_on" = some (.ref (He.ga K "_law_mean_on"))
  n_isinstance : mg "isinstance" = none
  n_tuple : mg "tuple" = none
  g__law_same : mg "_law_same" = some (.ref (He.ga K "_law_same"))
  n_all : mg "all" = none
  n_bool : mg "bool" = none
  n_str : mg "str" = none
  n_dict : mg "dict" = none
  n_list : mg "list" = none
  f__law_same : ∃ fd, FunD K "_law_same" "_law_same" (defArgs (top 65)) (defBody (top 65)) (defScope (top 65)) [] [] (He.ga K "_law_same") fd
  f_is_whole : ∃ fd, FunD K "is_whole" "is_whole" (defArgs (top 3)) (defBody (top 3)) (defScope (top 3)) [] [] (He.ga K "is_whole") fd
  g_is_whole : mg "is_whole" = some (.ref (He.ga K "is_whole"))
  f_is_between : ∃ fd, FunD K "is_between" "is_between" (defArgs (top 4)) (defBody (top 4)) (defScope (top 4)) [] [] (He.ga K "is_between") fd
  g_is_between : mg "is_between" = some (.ref (He.ga K "is_between"))
  i_MOST_PARTS : ∃ t, mg "MOST_PARTS" = some (.int (15) t)
  f_check_many : ∃ fd, FunD K "check_many" "check_many" (defArgs (top 50)) (defBody (top 50)) (defScope (top 50)) [] [] (He.ga K "check_many") fd
  g_check_many : mg "check_many" = some (.ref (He.ga K "check_many"))
  f_is_tuple_of : ∃ fd, FunD K "is_tuple_of" "is_tuple_of" (defArgs (top 7)) (defBody (top 7)) (defScope (top 7)) [] [] (He.ga K "is_tuple_of") fd
  g_is_tuple_of : mg "is_tuple_of" = some (.ref (He.ga K "is_tuple_of"))
  f_is_pair : ∃ fd, FunD K "is_pair" "is_pair" (defArgs (top 8)) (defBody (top 8)) (defScope (top 8)) [] [] (He.ga K "is_pair") fd
  g_is_pair : mg "is_pair" = some (.ref (He.ga K "is_pair"))
  b_gcd : mg "gcd" = some (.builtin "math.gcd")
  f_is_chance : ∃ fd, FunD K "is_chance" "is_chance" (defArgs (top 14)) (defBody (top 14)) (defScope (top 14)) [] [] (He.ga K "is_chance") fd
  g_is_chance : mg "is_chance" = some (.ref (He.ga K "is_chance"))
  f_check_comes : ∃ fd, FunD K "check_comes" "check_comes" (defArgs (top 31)) (defBody (top 31)) (defScope (top 31)) [] [] (He.ga K "check_comes") fd
  g_check_comes : mg "check_comes" = some (.ref (He.ga K "check_comes"))
  f_check_both : ∃ fd, FunD K "check_both" "check_both" (defArgs (top 56)) (defBody (top 56)) (defScope (top 56)) [] [] (He.ga K "check_both") fd
  g_check_both : mg "check_both" = some (.ref (He.ga K "check_both"))
  f_less_from_one : ∃ fd, FunD K "less_from_one" "less_from_one" (defArgs (top 39)) (defBody (top 39)) (defScope (top 39)) [] [] (He.ga K "less_from_one") fd
  g_less_from_one : mg "less_from_one" = some (.ref (He.ga K "less_from_one"))
  f_power : ∃ fd, FunD K "power" "power" (defArgs (top 16)) (defBody (top 16)) (defScope (top 16)) [] [] (He.ga K "power") fd
  g_power : mg "power" = some (.ref (He.ga K "power"))
  f_to_power : ∃ fd, FunD K "to_power" "to_power" (defArgs (top 42)) (defBody (top 42)) (defScope (top 42)) [] [] (He.ga K "to_power") fd
  g_to_power : mg "to_power" = some (.ref (He.ga K "to_power"))
  f_lowest : ∃ fd, FunD K "lowest" "lowest" (defArgs (top 15)) (defBody (top 15)) (defScope (top 15)) [] [] (He.ga K "lowest") fd
  g_lowest : mg "lowest" = some (.ref (He.ga K "lowest"))
  f_plus : ∃ fd, FunD K "plus" "plus" (defArgs (top 41)) (defBody (top 41)) (defScope (top 41)) [] [] (He.ga K "plus") fd
  g_plus : mg "plus" = some (.ref (He.ga K "plus"))
  f_ways_of : ∃ fd, FunD K "ways_of" "ways_of" (defArgs (top 44)) (defBody (top 44)) (defScope (top 44)) [] [] (He.ga K "ways_of") fd
  g_ways_of : mg "ways_of" = some (.ref (He.ga K "ways_of"))
  f_told_by : ∃ fd, FunD K "told_by" "told_by" (defArgs (top 45)) (defBody (top 45)) (defScope (top 45)) [] [] (He.ga K "told_by") fd
  g_told_by : mg "told_by" = some (.ref (He.ga K "told_by"))
  f_mean_told : ∃ fd, FunD K "mean_told" "mean_told" (defArgs (top 58)) (defBody (top 58)) (defScope (top 58)) [] [] (He.ga K "mean_told") fd
  g_mean_told : mg "mean_told" = some (.ref (He.ga K "mean_told"))
  f_on_by : ∃ fd, FunD K "on_by" "on_by" (defArgs (top 46)) (defBody (top 46)) (defScope (top 46)) [] [] (He.ga K "on_by") fd
  g_on_by : mg "on_by" = some (.ref (He.ga K "on_by"))
  f_mean_on : ∃ fd, FunD K "mean_on" "mean_on" (defArgs (top 59)) (defBody (top 59)) (defScope (top 59)) [] [] (He.ga K "mean_on") fd
  g_mean_on : mg "mean_on" = some (.ref (He.ga K "mean_on"))
  n_min : mg "min" = none
  f_is_up_to : ∃ fd, FunD K "is_up_to" "is_up_to" (defArgs (top 5)) (defBody (top 5)) (defScope (top 5)) [] [] (He.ga K "is_up_to") fd
  g_is_up_to : mg "is_up_to" = some (.ref (He.ga K "is_up_to"))
  i_MOST_NUMBER : ∃ t, mg "MOST_NUMBER" = some (.int (99) t)
  f_check_number : ∃ fd, FunD K "check_number" "check_number" (defArgs (top 49)) (defBody (top 49)) (defScope (top 49)) [] [] (He.ga K "check_number") fd
  g_check_number : mg "check_number" = some (.ref (He.ga K "check_number"))
  f_within_by : ∃ fd, FunD K "within_by" "within_by" (defArgs (top 43)) (defBody (top 43)) (defScope (top 43)) [] [] (He.ga K "within_by") fd
  g_within_by : mg "within_by" = some (.ref (He.ga K "within_by"))
  f_told_within : ∃ fd, FunD K "told_within" "told_within" (defArgs (top 57)) (defBody (top 57)) (defScope (top 57)) [] [] (He.ga K "told_within") fd
  g_told_within : mg "told_within" = some (.ref (He.ga K "told_within"))
  f__law_within : ∃ fd, FunD K "_law_within" "_law_within" (defArgs (top 73)) (defBody (top 73)) (defScope (top 73)) [] [] (He.ga K "_law_within") fd
  g__law_within : mg "_law_within" = some (.ref (He.ga K "_law_within"))
  f__law_two_right : ∃ fd, FunD K "_law_two_right" "_law_two_right" (defArgs (top 80)) (defBody (top 80)) (defScope (top 80)) [] [] (He.ga K "_law_two_right") fd
  g__law_two_right : mg "_law_two_right" = some (.ref (He.ga K "_law_two_right"))
  f__law_of : ∃ fd, FunD K "_law_of" "_law_of" (defArgs (top 64)) (defBody (top 64)) (defScope (top 64)) [] [] (He.ga K "_law_of") fd
  g__law_of : mg "_law_of" = some (.ref (He.ga K "_law_of"))
  n_sorted : mg "sorted" = none
  f__law_names : ∃ fd, FunD K "_law_names" "_law_names" (defArgs (top 66)) (defBody (top 66)) (defScope (top 66)) [] [] (He.ga K "_law_names") fd
  g__law_names : mg "_law_names" = some (.ref (He.ga K "_law_names"))
  f__law_plan : ∃ fd, FunD K "_law_plan" "_law_plan" (defArgs (top 77)) (defBody (top 77)) (defScope (top 77)) [] [] (He.ga K "_law_plan") fd
  g__law_plan : mg "_law_plan" = some (.ref (He.ga K "_law_plan"))
  f__law_plan_chance : ∃ fd, FunD K "_law_plan_chance" "_law_plan_chance" (defArgs (top 78)) (defBody (top 78)) (defScope (top 78)) [] [] (He.ga K "_law_plan_chance") fd
  g__law_plan_chance : mg "_law_plan_chance" = some (.ref (He.ga K "_law_plan_chance"))
  n_enumerate : mg "enumerate" = none
  f_wrong_in : ∃ fd, FunD K "wrong_in" "wrong_in" (defArgs (top 9)) (defBody (top 9)) (defScope (top 9)) [] [] (He.ga K "wrong_in") fd
  g_wrong_in : mg "wrong_in" = some (.ref (He.ga K "wrong_in"))
  t_KINDS : TupS K mg "KINDS" ["post", "way", "bird"]
  i_MOST_SIGNS : ∃ t, mg "MOST_SIGNS" = some (.int (6) t)
  s_LETTERS : ∃ t, mg "LETTERS" = some (.str "abcdefghijklmnopqrstuvwxyz" t)
  f_is_small : ∃ fd, FunD K "is_small" "is_small" (defArgs (top 6)) (defBody (top 6)) (defScope (top 6)) [] [] (He.ga K "is_small") fd
  g_is_small : mg "is_small" = some (.ref (He.ga K "is_small"))
  f_is_name : ∃ fd, FunD K "is_name" "is_name" (defArgs (top 29)) (defBody (top 29)) (defScope (top 29)) [] [] (He.ga K "is_name") fd
  g_is_name : mg "is_name" = some (.ref (He.ga K "is_name"))
  f_is_bearer : ∃ fd, FunD K "is_bearer" "is_bearer" (defArgs (top 33)) (defBody (top 33)) (defScope (top 33)) [] [] (He.ga K "is_bearer") fd
  g_is_bearer : mg "is_bearer" = some (.ref (He.ga K "is_bearer"))
  tb_wrong_in_plan : TabB base mg (He.codeOf K ("wrong_in_plan", none)) (He.tabOf K (He.codeOf K ("wrong_in_plan", none)))
  tm_wrong_in_plan : ((He.tabOf K (He.codeOf K ("wrong_in_plan", none))), fun _ _ => ("wrong_in_plan" : Str) ++ ".<locals>." ++ "<lambda>") ∈ T
  tu_wrong_in_plan : ∀ q ∈ T, q.1 = (He.tabOf K (He.codeOf K ("wrong_in_plan", none))) → q.2 = fun _ _ => ("wrong_in_plan" : Str) ++ ".<locals>." ++ "<lambda>"
  f_wrong_in_plan : ∃ fd, FunD K "wrong_in_plan" "wrong_in_plan" (defArgs (top 34)) (defBody (top 34)) (defScope (top 34)) [] [] (He.ga K "wrong_in_plan") fd
  g_wrong_in_plan : mg "wrong_in_plan" = some (.ref (He.ga K "wrong_in_plan"))
  f_check_plan : ∃ fd, FunD K "check_plan" "check_plan" (defArgs (top 52)) (defBody (top 52)) (defScope (top 52)) [] [] (He.ga K "check_plan") fd
  g_check_plan : mg "check_plan" = some (.ref (He.ga K "check_plan"))
  f_bearers_of : ∃ fd, FunD K "bearers_of" "bearers_of" (defArgs (top 36)) (defBody (top 36)) (defScope (top 36)) [] [] (He.ga K "bearers_of") fd
  g_bearers_of : mg "bearers_of" = some (.ref (He.ga K "bearers_of"))
  f_times : ∃ fd, FunD K "times" "times" (defArgs (top 40)) (defBody (top 40)) (defScope (top 40)) [] [] (He.ga K "times") fd
  g_times : mg "times" = some (.ref (He.ga K "times"))
  f_plan_by : ∃ fd, FunD K "plan_by" "plan_by" (defArgs (top 47)) (defBody (top 47)) (defScope (top 47)) [] [] (He.ga K "plan_by") fd
  g_plan_by : mg "plan_by" = some (.ref (He.ga K "plan_by"))
  f_plan_chance : ∃ fd, FunD K "plan_chance" "plan_chance" (defArgs (top 60)) (defBody (top 60)) (defScope (top 60)) [] [] (He.ga K "plan_chance") fd
  g_plan_chance : mg "plan_chance" = some (.ref (He.ga K "plan_chance"))
  f_are_below : ∃ fd, FunD K "are_below" "are_below" (defArgs (top 10)) (defBody (top 10)) (defScope (top 10)) [] [] (He.ga K "are_below") fd
  g_are_below : mg "are_below" = some (.ref (He.ga K "are_below"))
  tb_wrong_in_flock : TabB base mg (He.codeOf K ("wrong_in_flock", none)) (He.tabOf K (He.codeOf K ("wrong_in_flock", none)))
  tm_wrong_in_flock : ((He.tabOf K (He.codeOf K ("wrong_in_flock", none))), fun _ _ => ("wrong_in_flock" : Str) ++ ".<locals>." ++ "<lambda>") ∈ T
  tu_wrong_in_flock : ∀ q ∈ T, q.1 = (He.tabOf K (He.codeOf K ("wrong_in_flock", none))) → q.2 = fun _ _ => ("wrong_in_flock" : Str) ++ ".<locals>." ++ "<lambda>"
  f_wrong_in_flock : ∃ fd, FunD K "wrong_in_flock" "wrong_in_flock" (defArgs (top 35)) (defBody (top 35)) (defScope (top 35)) [] [] (He.ga K "wrong_in_flock") fd
  g_wrong_in_flock : mg "wrong_in_flock" = some (.ref (He.ga K "wrong_in_flock"))
  f_check_flock : ∃ fd, FunD K "check_flock" "check_flock" (defArgs (top 53)) (defBody (top 53)) (defScope (top 53)) [] [] (He.ga K "check_flock") fd
  g_check_flock : mg "check_flock" = some (.ref (He.ga K "check_flock"))
  f_even_by : ∃ fd, FunD K "even_by" "even_by" (defArgs (top 37)) (defBody (top 37)) (defScope (top 37)) [] [] (He.ga K "even_by") fd
  g_even_by : mg "even_by" = some (.ref (He.ga K "even_by"))
  f_even_plan : ∃ fd, FunD K "even_plan" "even_plan" (defArgs (top 54)) (defBody (top 54)) (defScope (top 54)) [] [] (He.ga K "even_plan") fd
  g_even_plan : mg "even_plan" = some (.ref (He.ga K "even_plan"))
  f__law_one_right : ∃ fd, FunD K "_law_one_right" "_law_one_right" (defArgs (top 79)) (defBody (top 79)) (defScope (top 79)) [] [] (He.ga K "_law_one_right") fd
  g__law_one_right : mg "_law_one_right" = some (.ref (He.ga K "_law_one_right"))
  f__law_right : ∃ fd, FunD K "_law_right" "_law_right" (defArgs (top 81)) (defBody (top 81)) (defScope (top 81)) [] [] (He.ga K "_law_right") fd
  g__law_right : mg "_law_right" = some (.ref (He.ga K "_law_right"))
  n_abs : mg "abs" = none
  f__law_well : ∃ fd, FunD K "_law_well" "_law_well" (defArgs (top 62)) (defBody (top 62)) (defScope (top 62)) [] [] (He.ga K "_law_well") fd
  g__law_well : mg "_law_well" = some (.ref (He.ga K "_law_well"))
  f_law : ∃ fd, FunD K "law" "law" (defArgs (top 82)) (defBody (top 82)) (defScope (top 82)) [] [] (He.ga K "law") fd
variable {P : Program} {w : World} {K : PySem.W.Frag} {mg : Str → Option Value} {base : Heap} {T : List NTab}
theorem N__law_draw : FnScope ["well", "limit", "figure", "mixed"] ["well", "limit"] (defScope (top 63)) := ⟨rfl, rfl, rfl, by decide +kernel, rfl, by decide +kernel, by decide +kernel⟩
def B__law_draw : Sv := (sSeq (sIf (tB (e2 gtS (e2 ixS (pk 0) (kc (.int 0))) (kc (.int 0)))) (sSeq (sIxNm (vr 0) (kc (.int 0)) 2 (eN divmodC (eCons (e2 ixS (pk 0) (kc (.int 0))) (eCons (pk 1) eNil))))
  (sRet (vr 2))) sNil)
  (sSeq (sIxS (vr 0) (kc (.int 2)) (e2 addS (e2 ixS (pk 0) (kc (.int 2))) (kc (.int 1))))
  (sSeq (sSet 3 (e2 modS (eN intC (eCons (e2 addS (e2 addS (e2 mulS (e2 ixS (pk 0) (kc (.int 1))) (kc (.int 40009))) (e2 mulS (kc (.int 15013)) (e2 ixS (pk 0) (kc (.int 2))))) (kc (.int 3))) eNil)) (kc (.int 2147483587))))
  (sSeq (sIxS (vr 0) (kc (.int 1)) (e2 modS (eN intC (eCons (e2 addS (e2 mulS (pk 3) (e2 addS (e2 modS (eN intC (eCons (pk 3) eNil)) (kc (.int 5003))) (kc (.int 20011)))) (e2 ixS (pk 0) (kc (.int 2)))) eNil)) (kc (.int 2147483587))))
  (sRet (e2 modS (eN intC (eCons (e2 fdivS (e2 ixS (pk 0) (kc (.int 1))) (kc (.int 1049))) eNil)) (pk 1)))))))
abbrev M__law_draw : List Slot → Sto → Res D := fnM 2 B__law_draw
abbrev sh__law_draw : List Shp := []
theorem D__law_draw (Z : Fx K mg base T) : DFn P w K mg base (G P w K mg base T) 1 (He.ga K "_law_draw") 2 sh__law_draw M__law_draw := by
  obtain ⟨fd, F⟩ := Z.f__law_draw
  exact dfn_of F N__law_draw rfl rfl (fun kV doc pm an cdv ct us hl => match us, hl with | [_, _], _ => rfl) (by intro t ht kV doc pm an cdv ct us ws h1 h2; cases ht) (fun A outer s H E W hr => (s_cons (s_if (d_tcmp (o_gt rfl (room_un hr)) (toP (d_ix rfl (room_un1 hr) (d_pk (pv 0)) (toP d_int))) (toP d_int) (nomark _)) (s_cons (s_ixNm (i := 2) rfl rfl N__law_draw.nd rfl (by first | exact Or.inl rfl | exact Or.inr rfl) (d_vr (pv 0)) d_int (d_callB monoR c_divmod (by rfl) Z.n_divmod b_divmod (q_cons (toP (d_ix rfl (room_un1 hr) (d_pk (pv 0)) (toP d_int))) (q_cons (d_pk (pv 1)) q_nil))) (by first | exact Or.inl rfl | exact Or.inr rfl))
  (s_one (s_ret (d_vr (pv 2))))) s_nil)
  (s_cons (s_ixS (d_vr (pv 0)) d_int (d_op monoR (o_add rfl) (toP (d_ix rfl (room_un1 hr) (d_pk (pv 0)) (toP d_int))) (toP d_int)))
  (s_cons (s_set (i := 3) N__law_draw.nd rfl (by first | exact Or.inl rfl | exact Or.inr rfl) (d_op monoR o_mod (toP (d_callTy monoR c_int (by rfl) Z.n_int b_int (q_cons (toP (d_op monoR (o_add rfl) (toP (d_op monoR (o_add rfl) (toP (d_op monoR (o_mul rfl) (toP (d_ix rfl (room_un1 hr) (d_pk (pv 0)) (toP d_int))) (toP d_int))) (toP (d_op monoR (o_mul rfl) (toP d_int) (toP (d_ix rfl (room_un1 hr) (d_pk (pv 0)) (toP d_int))))))) (toP d_int))) q_nil))) (toP d_int)))
  (s_cons (s_ixS (d_vr (pv 0)) d_int (d_op monoR o_mod (toP (d_callTy monoR c_int (by rfl) Z.n_int b_int (q_cons (toP (d_op monoR (o_add rfl) (toP (d_op monoR (o_mul rfl) (d_pk (pv 3)) (toP (d_op monoR (o_add rfl) (toP (d_op monoR o_mod (toP (d_callTy monoR c_int (by rfl) Z.n_int b_int (q_cons (d_pk (pv 3)) q_nil))) (toP d_int))) (toP d_int))))) (toP (d_ix rfl (room_un1 hr) (d_pk (pv 0)) (toP d_int))))) q_nil))) (toP d_int)))
  (s_one (s_ret (d_op monoR o_mod (toP (d_callTy monoR c_int (by rfl) Z.n_int b_int (q_cons (toP (d_op monoR o_fdiv (toP (d_ix rfl (room_un1 hr) (d_pk (pv 0)) (toP d_int))) (toP d_int))) q_nil))) (d_pk (pv 1))))))))))
theorem N__law_lowest : FnScope ["above", "below", "one", "two", "lap"] ["above", "below"] (defScope (top 67)) := ⟨rfl, rfl, rfl, by decide +kernel, rfl, by decide +kernel, by decide +kernel⟩
def B__law_lowest : Sv := (sSeq (sPar2 false false 2 3 (vr 0) (vr 1))
  (sSeq (sFor (.nm 4) (iRange (eCons (kc (.int 400)) eNil)) (sTg (.tp [(.nm 2), (.nm 3)]) (eIf (tB (e2 gtS (pk 3) (kc (.int 0)))) (eTup (eCons (vr 3) (eCons (e2 modS (eN intC (eCons (pk 2) eNil)) (pk 3)) eNil))) (eTup (eCons (vr 2) (eCons (kc (.int 0)) eNil))))))
  (sRet (eTup (eCons (e2 fdivS (pk 0) (pk 2)) (eCons (e2 fdivS (pk 1) (pk 2)) eNil))))))
abbrev M__law_lowest : List Slot → Sto → Res D := fnM 3 B__law_lowest
abbrev sh__law_lowest : List Shp := []
theorem D__law_lowest (Z : Fx K mg base T) : DFn P w K mg base (G P w K mg base T) 1 (He.ga K "_law_lowest") 2 sh__law_lowest M__law_lowest := by
  obtain ⟨fd, F⟩ := Z.f__law_lowest
  exact dfn_of F N__law_lowest rfl rfl (fun kV doc pm an cdv ct us hl => match us, hl with | [_, _], _ => rfl) (by intro t ht kV doc pm an cdv ct us ws h1 h2; cases ht) (fun A outer s H E W hr => (s_cons (s_par2 false false rfl N__law_lowest.nd (i := 2) (j := 3) rfl rfl (by decide) (by rfl) (by rfl) (d_vr (pv 0)) (d_vr (pv 1)) (by rfl))
  (s_cons (s_for owF rfl (i_range1 (by rfl) Z.n_range (d_cons d_int d_nil)) (g_nm (i := 4) N__law_lowest.nd (by rfl) (by first | exact Or.inl rfl | exact Or.inr rfl)) (s_one (s_tg (d_if monoR (d_tcmp (o_gt rfl (room_un hr)) (d_pk (pv 3)) (toP d_int) (nomark _)) (d_tup (d_cons (d_vr (pv 3)) (d_cons (d_op monoR o_mod (toP (d_callTy monoR c_int (by rfl) Z.n_int b_int (q_cons (d_pk (pv 2)) q_nil))) (d_pk (pv 3))) d_nil))) (d_tup (d_cons (d_vr (pv 2)) (d_cons d_int d_nil)))) (g_tp rfl rfl (gs_cons (g_nm (i := 2) N__law_lowest.nd (by rfl) (by first | exact Or.inl rfl | exact Or.inr rfl)) (gs_cons (g_nm (i := 3) N__law_lowest.nd (by rfl) (by first | exact Or.inl rfl | exact Or.inr rfl)) gs_nil)) (by rfl)))))
  (s_one (s_ret (d_tup (d_cons (d_op monoR o_fdiv (d_pk (pv 0)) (d_pk (pv 2))) (d_cons (d_op monoR o_fdiv (d_pk (pv 1)) (d_pk (pv 2))) d_nil))))))))
theorem N__law_comes : FnScope ["well", "below"] ["well"] (defScope (top 72)) := ⟨rfl, rfl, rfl, by decide +kernel, rfl, by decide +kernel, by decide +kernel⟩
def B__law_comes : Sv := (sSeq (sSet 1 (e2 addS (kc (.int 1)) (eCall M__law_draw (eCons (vr 0) (eCons (kc (.int 7)) eNil)))))
  (sRet (eCall M__law_lowest (eCons (e2 addS (kc (.int 1)) (eCall M__law_draw (eCons (vr 0) (eCons (vr 1) eNil)))) (eCons (vr 1) eNil)))))
abbrev M__law_comes : List Slot → Sto → Res D := fnM 1 B__law_comes
abbrev sh__law_comes : List Shp := []
theorem D__law_comes (Z : Fx K mg base T) : DFn P w K mg base (G P w K mg base T) 2 (He.ga K "_law_comes") 1 sh__law_comes M__law_comes := by
  obtain ⟨fd, F⟩ := Z.f__law_comes
  exact dfn_of F N__law_comes rfl rfl (fun kV doc pm an cdv ct us hl => match us, hl with | [_], _ => rfl) (by intro t ht kV doc pm an cdv ct us ws h1 h2; cases ht) (fun A outer s H E W hr => (s_cons (s_set (i := 1) N__law_comes.nd rfl (by first | exact Or.inl rfl | exact Or.inr rfl) (d_op monoR (o_add rfl) (toP d_int) (toP (c_call tkF (D__law_draw Z) hr (by omega) (by rfl) Z.g__law_draw (d_cons (d_vr (pv 0)) (d_cons d_int d_nil))))))
  (s_one (s_ret (c_call tkF (D__law_lowest Z) hr (by omega) (by rfl) Z.g__law_lowest (d_cons (d_op monoR (o_add rfl) (toP d_int) (toP (c_call tkF (D__law_draw Z) hr (by omega) (by rfl) Z.g__law_draw (d_cons (d_vr (pv 0)) (d_cons (d_vr (pv 1)) d_nil))))) (d_cons (d_vr (pv 1)) d_nil)))))))
theorem N__law_chosen : FnScope ["many", "row", "lap", "k"] ["many"] (defScope (top 74)) := ⟨rfl, rfl, rfl, by decide +kernel, rfl, by decide +kernel, by decide +kernel⟩
def B__law_chosen : Sv := (sSeq (sSet 1 (eLst (eCons (kc (.int 1)) eNil)))
  (sSeq (sFor (.nm 2) (iRange (eCons (vr 0) eNil)) (sSet 1 (e2 addS (e2 addS (eLst (eCons (kc (.int 1)) eNil)) (eLc (.nm 3) (iRange (eCons (e2 subS (eN lenC (eCons (pk 1) eNil)) (kc (.int 1))) eNil)) tYes (e2 addS (e2 ixS (pk 1) (pk 3)) (e2 ixS (pk 1) (e2 addS (pk 3) (kc (.int 1))))) [3])) (eLst (eCons (kc (.int 1)) eNil)))))
  (sRet (vr 1))))
abbrev M__law_chosen : List Slot → Sto → Res D := fnM 3 B__law_chosen
abbrev sh__law_chosen : List Shp := []
theorem D__law_chosen (Z : Fx K mg base T) : DFn P w K mg base (G P w K mg base T) 1 (He.ga K "_law_chosen") 1 sh__law_chosen M__law_chosen := by
  obtain ⟨fd, F⟩ := Z.f__law_chosen
  exact dfn_of F N__law_chosen rfl rfl (fun kV doc pm an cdv ct us hl => match us, hl with | [_], _ => rfl) (by intro t ht kV doc pm an cdv ct us ws h1 h2; cases ht) (fun A outer s H E W hr => (s_cons (s_set (i := 1) N__law_chosen.nd rfl (by first | exact Or.inl rfl | exact Or.inr rfl) (FtoR (d_lst (d_cons d_int d_nil))))
  (s_cons (s_for owF rfl (i_range1 (by rfl) Z.n_range (d_cons (d_vr (pv 0)) d_nil)) (g_nm (i := 2) N__law_chosen.nd (by rfl) (by first | exact Or.inl rfl | exact Or.inr rfl)) (s_one (s_set (i := 1) N__law_chosen.nd rfl (by first | exact Or.inl rfl | exact Or.inr rfl) (d_op monoR (o_add rfl) (toP (d_op monoR (o_add rfl) (FtoP (d_lst (d_cons d_int d_nil))) (FtoP (d_lc rfl N__law_chosen.nd (i_range1 (by rfl) Z.n_range (d_cons (d_op monoR o_sub (toP (d_callB monoR (c_len rfl) (by rfl) Z.n_len b_len (q_cons (d_pk (pv 1)) q_nil))) (toP d_int)) d_nil)) (blkOk_by (own := [("k", 3)]) (by kernel_rfl)) (by decide) (fun _ _ _ _ _ => (g_nm (i := 3) N__law_chosen.nd (by rfl) (by first | exact Or.inl rfl | exact Or.inr rfl))) (fun _ _ _ _ _ => d_ifs0) (fun _ _ _ _ _ => (d_op monoR (o_add rfl) (toP (d_ix rfl (room_un1 hr) (d_pk (pv 1)) (d_pk (pv 3)))) (toP (d_ix rfl (room_un1 hr) (d_pk (pv 1)) (toP (d_op monoR (o_add rfl) (d_pk (pv 3)) (toP d_int))))))))))) (FtoP (d_lst (d_cons d_int d_nil)))))))
  (s_one (s_ret (d_vr (pv 1)))))))
theorem N__law_times : FnScope ["one", "two"] ["one", "two"] (defScope (top 69)) := ⟨rfl, rfl, rfl, by decide +kernel, rfl, by decide +kernel, by decide +kernel⟩
def B__law_times : Sv := (sRet (eCall M__law_lowest (eCons (e2 mulS (e2 ixS (pk 0) (kc (.int 0))) (e2 ixS (pk 1) (kc (.int 0)))) (eCons (e2 mulS (e2 ixS (pk 0) (kc (.int 1))) (e2 ixS (pk 1) (kc (.int 1)))) eNil))))
abbrev M__law_times : List Slot → Sto → Res D := fnM 0 B__law_times
abbrev sh__law_times : List Shp := []
theorem D__law_times (Z : Fx K mg base T) : DFn P w K mg base (G P w K mg base T) 2 (He.ga K "_law_times") 2 sh__law_times M__law_times := by
  obtain ⟨fd, F⟩ := Z.f__law_times
  exact dfn_of F N__law_times rfl rfl (fun kV doc pm an cdv ct us hl => match us, hl with | [_, _], _ => rfl) (by intro t ht kV doc pm an cdv ct us ws h1 h2; cases ht) (fun A outer s H E W hr => (s_one (s_ret (c_call tkF (D__law_lowest Z) hr (by omega) (by rfl) Z.g__law_lowest (d_cons (d_op monoR (o_mul rfl) (toP (d_ix rfl (room_un1 hr) (d_pk (pv 0)) (toP d_int))) (toP (d_ix rfl (room_un1 hr) (d_pk (pv 1)) (toP d_int)))) (d_cons (d_op monoR (o_mul rfl) (toP (d_ix rfl (room_un1 hr) (d_pk (pv 0)) (toP d_int))) (toP (d_ix rfl (room_un1 hr) (d_pk (pv 1)) (toP d_int)))) d_nil))))))
theorem N__law_power : FnScope ["one", "many", "found", "lap"] ["one", "many"] (defScope (top 71)) := ⟨rfl, rfl, rfl, by decide +kernel, rfl, by decide +kernel, by decide +kernel⟩
def B__law_power : Sv := (sSeq (sSet 2 (eTup (eCons (kc (.int 1)) (eCons (kc (.int 1)) eNil))))
  (sSeq (sFor (.nm 3) (iRange (eCons (vr 1) eNil)) (sSet 2 (eCall M__law_times (eCons (vr 2) (eCons (vr 0) eNil)))))
  (sRet (eCall M__law_lowest (eCons (e2 ixS (pk 2) (kc (.int 0))) (eCons (e2 ixS (pk 2) (kc (.int 1))) eNil))))))
abbrev M__law_power : List Slot → Sto → Res D := fnM 2 B__law_power
abbrev sh__law_power : List Shp := []
theorem D__law_power (Z : Fx K mg base T) : DFn P w K mg base (G P w K mg base T) 3 (He.ga K "_law_power") 2 sh__law_power M__law_power := by
  obtain ⟨fd, F⟩ := Z.f__law_power
  exact dfn_of F N__law_power rfl rfl (fun kV doc pm an cdv ct us hl => match us, hl with | [_, _], _ => rfl) (by intro t ht kV doc pm an cdv ct us ws h1 h2; cases ht) (fun A outer s H E W hr => (s_cons (s_set (i := 2) N__law_power.nd rfl (by first | exact Or.inl rfl | exact Or.inr rfl) (d_tup (d_cons d_int (d_cons d_int d_nil))))
  (s_cons (s_for owF rfl (i_range1 (by rfl) Z.n_range (d_cons (d_vr (pv 1)) d_nil)) (g_nm (i := 3) N__law_power.nd (by rfl) (by first | exact Or.inl rfl | exact Or.inr rfl)) (s_one (s_set (i := 2) N__law_power.nd rfl (by first | exact Or.inl rfl | exact Or.inr rfl) (c_call tkF (D__law_times Z) hr (by omega) (by rfl) Z.g__law_times (d_cons (d_vr (pv 2)) (d_cons (d_vr (pv 0)) d_nil))))))
  (s_one (s_ret (c_call tkF (D__law_lowest Z) hr (by omega) (by rfl) Z.g__law_lowest (d_cons (d_ix rfl (room_un1 hr) (d_pk (pv 2)) (toP d_int)) (d_cons (d_ix rfl (room_un1 hr) (d_pk (pv 2)) (toP d_int)) d_nil))))))))
theorem N__law_less : FnScope ["one"] ["one"] (defScope (top 70)) := ⟨rfl, rfl, rfl, by decide +kernel, rfl, by decide +kernel, by decide +kernel⟩
def B__law_less : Sv := (sRet (eTup (eCons (e2 subS (e2 ixS (pk 0) (kc (.int 1))) (e2 ixS (pk 0) (kc (.int 0)))) (eCons (e2 ixS (pk 0) (kc (.int 1))) eNil))))
abbrev M__law_less : List Slot → Sto → Res D := fnM 0 B__law_less
abbrev sh__law_less : List Shp := []
theorem D__law_less (Z : Fx K mg base T) : DFn P w K mg base (G P w K mg base T) 1 (He.ga K "_law_less") 1 sh__law_less M__law_less := by
  obtain ⟨fd, F⟩ := Z.f__law_less
  exact dfn_of F N__law_less rfl rfl (fun kV doc pm an cdv ct us hl => match us, hl with | [_], _ => rfl) (by intro t ht kV doc pm an cdv ct us ws h1 h2; cases ht) (fun A outer s H E W hr => (s_one (s_ret (d_tup (d_cons (d_op monoR o_sub (toP (d_ix rfl (room_un1 hr) (d_pk (pv 0)) (toP d_int))) (toP (d_ix rfl (room_un1 hr) (d_pk (pv 0)) (toP d_int)))) (d_cons (d_ix rfl (room_un1 hr) (d_pk (pv 0)) (toP d_int)) d_nil))))))
theorem N__law_added : FnScope ["one", "two"] ["one", "two"] (defScope (top 68)) := ⟨rfl, rfl, rfl, by decide +kernel, rfl, by decide +kernel, by decide +kernel⟩
def B__law_added : Sv := (sRet (eCall M__law_lowest (eCons (e2 addS (e2 mulS (e2 ixS (pk 0) (kc (.int 0))) (e2 ixS (pk 1) (kc (.int 1)))) (e2 mulS (e2 ixS (pk 1) (kc (.int 0))) (e2 ixS (pk 0) (kc (.int 1))))) (eCons (e2 mulS (e2 ixS (pk 0) (kc (.int 1))) (e2 ixS (pk 1) (kc (.int 1)))) eNil))))
abbrev M__law_added : List Slot → Sto → Res D := fnM 0 B__law_added
abbrev sh__law_added : List Shp := []
theorem D__law_added (Z : Fx K mg base T) : DFn P w K mg base (G P w K mg base T) 2 (He.ga K "_law_added") 2 sh__law_added M__law_added := by
  obtain ⟨fd, F⟩ := Z.f__law_added
  exact dfn_of F N__law_added rfl rfl (fun kV doc pm an cdv ct us hl => match us, hl with | [_, _], _ => rfl) (by intro t ht kV doc pm an cdv ct us ws h1 h2; cases ht) (fun A outer s H E W hr => (s_one (s_ret (c_call tkF (D__law_lowest Z) hr (by omega) (by rfl) Z.g__law_lowest (d_cons (d_op monoR (o_add rfl) (toP (d_op monoR (o_mul rfl) (toP (d_ix rfl (room_un1 hr) (d_pk (pv 0)) (toP d_int))) (toP (d_ix rfl (room_un1 hr) (d_pk (pv 1)) (toP d_int))))) (toP (d_op monoR (o_mul rfl) (toP (d_ix rfl (room_un1 hr) (d_pk (pv 1)) (toP d_int))) (toP (d_ix rfl (room_un1 hr) (d_pk (pv 0)) (toP d_int)))))) (d_cons (d_op monoR (o_mul rfl) (toP (d_ix rfl (room_un1 hr) (d_pk (pv 0)) (toP d_int))) (toP (d_ix rfl (room_un1 hr) (d_pk (pv 1)) (toP d_int)))) d_nil))))))
theorem N__law_mean : FnScope ["many", "comes", "means", "parts", "total", "ways", "left", "one", "out"] ["many", "comes"] (defScope (top 75)) := ⟨rfl, rfl, rfl, by decide +kernel, rfl, by decide +kernel, by decide +kernel⟩
def B__law_mean : Sv := (sSeq (sOwn 2 (eLst (eCons (eTup (eCons (kc (.int 0)) (eCons (kc (.int 1)) eNil))) eNil)))
  (sSeq (sFor (.nm 3) (iRange (eCons (kc (.int 1)) (eCons (e2 addS (pk 0) (kc (.int 1))) eNil))) (sSeq (sPar2 false false 4 5 (eTup (eCons (kc (.int 1)) (eCons (kc (.int 1)) eNil))) (eCall M__law_chosen (eCons (vr 3) eNil)))
  (sSeq (sFor (.nm 6) (iRange (eCons (kc (.int 1)) (eCons (vr 3) eNil))) (sSeq (sSet 7 (eCall M__law_times (eCons (eCall M__law_power (eCons (eCall M__law_less (eCons (vr 1) eNil)) (eCons (vr 6) eNil))) (eCons (eCall M__law_power (eCons (vr 1) (eCons (e2 subS (pk 3) (pk 6)) eNil))) eNil))))
  (sSet 4 (eCall M__law_added (eCons (vr 4) (eCons (eCall M__law_times (eCons (eCall M__law_times (eCons (eTup (eCons (e2 ixS (pk 5) (pk 6)) (eCons (kc (.int 1)) eNil))) (eCons (vr 7) eNil))) (eCons (e2 ixS (pk 2) (pk 6)) eNil))) eNil))))))
  (sSeq (sSet 8 (eCall M__law_less (eCons (eCall M__law_power (eCons (eCall M__law_less (eCons (vr 1) eNil)) (eCons (vr 3) eNil))) eNil)))
  (sApp 2 (eCall M__law_times (eCons (vr 4) (eCons (eTup (eCons (e2 ixS (pk 8) (kc (.int 1))) (eCons (e2 ixS (pk 8) (kc (.int 0))) eNil))) eNil))))))))
  (sRet (e2 ixS (pk 2) (pk 0)))))
abbrev M__law_mean : List Slot → Sto → Res D := fnM 7 B__law_mean
abbrev sh__law_mean : List Shp := []
theorem D__law_mean (Z : Fx K mg base T) : DFn P w K mg base (G P w K mg base T) 4 (He.ga K "_law_mean") 2 sh__law_mean M__law_mean := by
  obtain ⟨fd, F⟩ := Z.f__law_mean
  exact dfn_of F N__law_mean rfl rfl (fun kV doc pm an cdv ct us hl => match us, hl with | [_, _], _ => rfl) (by intro t ht kV doc pm an cdv ct us ws h1 h2; cases ht) (fun A outer s H E W hr => (s_cons (s_own (i := 2) N__law_mean.nd rfl (by first | exact Or.inl rfl | exact Or.inr rfl) (d_lst (d_cons (d_tup (d_cons d_int (d_cons d_int d_nil))) d_nil)))
  (s_cons (s_for owF rfl (i_range2 (by rfl) Z.n_range (d_cons d_int (d_cons (d_op monoR (o_add rfl) (d_pk (pv 0)) (toP d_int)) d_nil))) (g_nm (i := 3) N__law_mean.nd (by rfl) (by first | exact Or.inl rfl | exact Or.inr rfl)) (s_cons (s_par2 false false rfl N__law_mean.nd (i := 4) (j := 5) rfl rfl (by decide) (by rfl) (by rfl) (d_tup (d_cons d_int (d_cons d_int d_nil))) (c_call tkF (D__law_chosen Z) hr (by omega) (by rfl) Z.g__law_chosen (d_cons (d_vr (pv 3)) d_nil)) (by rfl))
  (s_cons (s_for owF rfl (i_range2 (by rfl) Z.n_range (d_cons d_int (d_cons (d_vr (pv 3)) d_nil))) (g_nm (i := 6) N__law_mean.nd (by rfl) (by first | exact Or.inl rfl | exact Or.inr rfl)) (s_cons (s_set (i := 7) N__law_mean.nd rfl (by first | exact Or.inl rfl | exact Or.inr rfl) (c_call tkF (D__law_times Z) hr (by omega) (by rfl) Z.g__law_times (d_cons (c_call tkF (D__law_power Z) hr (by omega) (by rfl) Z.g__law_power (d_cons (c_call tkF (D__law_less Z) hr (by omega) (by rfl) Z.g__law_less (d_cons (d_vr (pv 1)) d_nil)) (d_cons (d_vr (pv 6)) d_nil))) (d_cons (c_call tkF (D__law_power Z) hr (by omega) (by rfl) Z.g__law_power (d_cons (d_vr (pv 1)) (d_cons (d_op monoR o_sub (d_pk (pv 3)) (d_pk (pv 6))) d_nil))) d_nil))))
  (s_one (s_set (i := 4) N__law_mean.nd rfl (by first | exact Or.inl rfl | exact Or.inr rfl) (c_call tkF (D__law_added Z) hr (by omega) (by rfl) Z.g__law_added (d_cons (d_vr (pv 4)) (d_cons (c_call tkF (D__law_times Z) hr (by omega) (by rfl) Z.g__law_times (d_cons (c_call tkF (D__law_times Z) hr (by omega) (by rfl) Z.g__law_times (d_cons (d_tup (d_cons (d_ix rfl (room_un1 hr) (d_pk (pv 5)) (d_pk (pv 6))) (d_cons d_int d_nil))) (d_cons (d_vr (pv 7)) d_nil))) (d_cons (d_ix rfl (room_un1 hr) (d_pk (pv 2)) (d_pk (pv 6))) d_nil))) d_nil)))))))
  (s_cons (s_set (i := 8) N__law_mean.nd rfl (by first | exact Or.inl rfl | exact Or.inr rfl) (c_call tkF (D__law_less Z) hr (by omega) (by rfl) Z.g__law_less (d_cons (c_call tkF (D__law_power Z) hr (by omega) (by rfl) Z.g__law_power (d_cons (c_call tkF (D__law_less Z) hr (by omega) (by rfl) Z.g__law_less (d_cons (d_vr (pv 1)) d_nil)) (d_cons (d_vr (pv 3)) d_nil))) d_nil)))
  (s_one (s_app (pv 2) (c_call tkF (D__law_times Z) hr (by omega) (by rfl) Z.g__law_times (d_cons (d_vr (pv 4)) (d_cons (d_tup (d_cons (d_ix rfl (room_un1 hr) (d_pk (pv 8)) (toP d_int)) (d_cons (d_ix rfl (room_un1 hr) (d_pk (pv 8)) (toP d_int)) d_nil))) d_nil)))))))))
  (s_one (s_ret (d_ix rfl (room_un1 hr) (d_pk (pv 2)) (d_pk (pv 0))))))))
theorem N__law_mean_on : FnScope ["many", "comes"] ["many", "comes"] (defScope (top 76)) := ⟨rfl, rfl, rfl, by decide +kernel, rfl, by decide +kernel, by decide +kernel⟩
def B__law_mean_on : Sv := (sRet (eCall M__law_added (eCons (eCall M__law_mean (eCons (vr 0) (eCons (vr 1) eNil))) (eCons (eTup (eCons (e2 subS (e2 ixS (pk 1) (kc (.int 1))) (e2 ixS (pk 1) (kc (.int 0)))) (eCons (e2 ixS (pk 1) (kc (.int 0))) eNil))) eNil))))
abbrev M__law_mean_on : List Slot → Sto → Res D := fnM 0 B__law_mean_on
abbrev sh__law_mean_on : List Shp := []
theorem D__law_mean_on (Z : Fx K mg base T) : DFn P w K mg base (G P w K mg base T) 5 (He.ga K "_law_mean_on") 2 sh__law_mean_on M__law_mean_on := by
  obtain ⟨fd, F⟩ := Z.f__law_mean_on
  exact dfn_of F N__law_mean_on rfl rfl (fun kV doc pm an cdv ct us hl => match us, hl with | [_, _], _ => rfl) (by intro t ht kV doc pm an cdv ct us ws h1 h2; cases ht) (fun A outer s H E W hr => (s_one (s_ret (c_call tkF (D__law_added Z) hr (by omega) (by rfl) Z.g__law_added (d_cons (c_call tkF (D__law_mean Z) hr (by omega) (by rfl) Z.g__law_mean (d_cons (d_vr (pv 0)) (d_cons (d_vr (pv 1)) d_nil))) (d_cons (d_tup (d_cons (d_op monoR o_sub (toP (d_ix rfl (room_un1 hr) (d_pk (pv 1)) (toP d_int))) (toP (d_ix rfl (room_un1 hr) (d_pk (pv 1)) (toP d_int)))) (d_cons (d_ix rfl (room_un1 hr) (d_pk (pv 1)) (toP d_int)) d_nil))) d_nil))))))
theorem N__law_same : FnScope ["one", "two", "k", "alike"] ["one", "two"] (defScope (top 65)) := ⟨rfl, rfl, rfl, by decide +kernel, rfl, by decide +kernel, by decide +kernel⟩
def B__law_same : Nat → Sv
  | 0 => sBad
  | n + 1 => (sSeq (sIf (tT (e1 (isiS .tup) (pk 1))) (sSeq (sIf (tOr (tNot (tT (e1 (isiS .tup) (pk 0)))) (tB (e2 neS (eN lenC (eCons (pk 0) eNil)) (eN lenC (eCons (pk 1) eNil))))) (sRet (kc (.bl false))) sNil)
  (sRet (eN (ofBls fun bs => .bl (bs.all id)) (eCons (eLc (.nm 2) (iRange (eCons (eN lenC (eCons (pk 1) eNil)) eNil)) tYes (eCall (fnM 2 (B__law_same n)) (eCons (e2 ixS (pk 0) (pk 2)) (eCons (e2 ixS (pk 1) (pk 2)) eNil))) [2]) eNil)))) sNil)
  (sSeq (sIf (tT (e1 (isiS .bl) (pk 1))) (sRet (eAnd (e1 (isiS .bl) (pk 0)) (e2 eqS (pk 0) (pk 1)))) sNil)
  (sSeq (sIf (tT (e1 (isiS .int) (pk 1))) (sRet (eAnd (e1 (isiS .int) (pk 0)) (eAnd (e1 notS (e1 (isiS .bl) (pk 0))) (e2 eqS (pk 0) (pk 1))))) sNil)
  (sSeq (sIf (tT (e1 (isiS .str) (pk 1))) (sRet (eAnd (e1 (isiS .str) (pk 0)) (e2 eqS (pk 0) (pk 1)))) sNil)
  (sSeq (sIf (tB (e2 isNonOp (pk 1) (kc .non))) (sRet (e2 isNonOp (pk 0) (kc .non))) sNil)
  (sSeq (sSet 3 (eAnd (e2 eqS (e1 (isiS .lst) (pk 0)) (e1 (isiS .lst) (pk 1))) (e2 eqS (e1 (isiS .dic) (pk 0)) (e1 (isiS .dic) (pk 1)))))
  (sRet (eAnd (pk 3) (eAnd (e1 notS (e1 (isiS .tup) (pk 0))) (e2 isBlOp (e2 eqS (pk 0) (pk 1)) (kc (.bl true))))))))))))
abbrev M__law_same (n : Nat) : List Slot → Sto → Res D := fnM 2 (B__law_same n)
abbrev sh__law_same : List Shp := []
theorem D__law_same (Z : Fx K mg base T) : ∀ n : Nat, DFn P w K mg base (G P w K mg base T) (0 + n + 1) (He.ga K "_law_same") 2 sh__law_same (M__law_same n)
  | 0 => by
    obtain ⟨fd, F⟩ := Z.f__law_same
    exact dfn_of F N__law_same rfl rfl (fun kV doc pm an cdv ct us hl => match us, hl with | [_, _], _ => rfl) (by intro t ht kV doc pm an cdv ct us ws h1 h2; cases ht) (fun A outer s H E W hr => ss_bad)
  | n + 1 => by
    obtain ⟨fd, F⟩ := Z.f__law_same
    have ih := D__law_same Z n
    exact dfn_of F N__law_same rfl rfl (fun kV doc pm an cdv ct us hl => match us, hl with | [_, _], _ => rfl) (by intro t ht kV doc pm an cdv ct us ws h1 h2; cases ht) (fun A outer s H E W hr => (s_cons (s_if (d_tT rfl (toP (d_isi (T := .tup) (by decide) rfl (by rfl) Z.n_isinstance (by rfl) Z.n_tuple b_tuple (d_pk (pv 1))))) (s_cons (s_if (PW.pt (d_or (d_tnot (d_tT rfl (toP (d_isi (T := .tup) (by decide) rfl (by rfl) Z.n_isinstance (by rfl) Z.n_tuple b_tuple (d_pk (pv 0)))))) (d_or1 (d_tcmp (o_ne rfl (room_un hr)) (toP (d_callB monoR (c_len rfl) (by rfl) Z.n_len b_len (q_cons (d_pk (pv 0)) q_nil))) (toP (d_callB monoR (c_len rfl) (by rfl) Z.n_len b_len (q_cons (d_pk (pv 1)) q_nil))) (nomark _))))) (s_one (s_ret d_bl)) s_nil)
  (s_one (s_ret (d_callB monoR (c_all rfl rfl) (by rfl) Z.n_all b_all (q_cons (FtoP (d_lc rfl N__law_same.nd (i_range1 (by rfl) Z.n_range (d_cons (d_callB monoR (c_len rfl) (by rfl) Z.n_len b_len (q_cons (d_pk (pv 1)) q_nil)) d_nil)) (blkOk_by (own := [("k", 2)]) (by kernel_rfl)) (by decide) (fun _ _ _ _ _ => (g_nm (i := 2) N__law_same.nd (by rfl) (by first | exact Or.inl rfl | exact Or.inr rfl))) (fun _ _ _ _ _ => d_ifs0) (fun _ _ _ _ _ => (c_call tkB ih hr (by omega) (by rfl) Z.g__law_same (d_cons (d_ix rfl (room_un1 hr) (d_pk (pv 0)) (d_pk (pv 2))) (d_cons (d_ix rfl (room_un1 hr) (d_pk (pv 1)) (d_pk (pv 2))) d_nil)))))) q_nil))))) s_nil)
  (s_cons (s_if (d_tT rfl (toP (d_isi (T := .bl) (by decide) rfl (by rfl) Z.n_isinstance (by rfl) Z.n_bool b_bool (d_pk (pv 1))))) (s_one (s_ret (d_andV monoR blR (toP (d_isi (T := .bl) (by decide) rfl (by rfl) Z.n_isinstance (by rfl) Z.n_bool b_bool (d_pk (pv 0)))) (d_one (d_cmp monoR (o_eq rfl (room_un hr)) (d_pk (pv 0)) (d_pk (pv 1)) (nomark _)))))) s_nil)
  (s_cons (s_if (d_tT rfl (toP (d_isi (T := .int) (by decide) rfl (by rfl) Z.n_isinstance (by rfl) Z.n_int b_int (d_pk (pv 1))))) (s_one (s_ret (d_andV monoR blR (toP (d_isi (T := .int) (by decide) rfl (by rfl) Z.n_isinstance (by rfl) Z.n_int b_int (d_pk (pv 0)))) (d_andV monoR blR (toP (d_not (toP (d_isi (T := .bl) (by decide) rfl (by rfl) Z.n_isinstance (by rfl) Z.n_bool b_bool (d_pk (pv 0)))))) (d_one (d_cmp monoR (o_eq rfl (room_un hr)) (d_pk (pv 0)) (d_pk (pv 1)) (nomark _))))))) s_nil)
  (s_cons (s_if (d_tT rfl (toP (d_isi (T := .str) (by decide) rfl (by rfl) Z.n_isinstance (by rfl) Z.n_str b_str (d_pk (pv 1))))) (s_one (s_ret (d_andV monoR blR (toP (d_isi (T := .str) (by decide) rfl (by rfl) Z.n_isinstance (by rfl) Z.n_str b_str (d_pk (pv 0)))) (d_one (d_cmp monoR (o_eq rfl (room_un hr)) (d_pk (pv 0)) (d_pk (pv 1)) (nomark _)))))) s_nil)
  (s_cons (s_if (d_tcmp o_is (d_pk (pv 1)) (toP d_non) (nomark _)) (s_one (s_ret (d_cmp monoR o_is (d_pk (pv 0)) (toP d_non) (nomark _)))) s_nil)
  (s_cons (s_set (i := 3) N__law_same.nd rfl (by first | exact Or.inl rfl | exact Or.inr rfl) (d_andV monoR blR (toP (d_cmp monoR (o_eq rfl (room_un hr)) (toP (d_isi (T := .lst) (by decide) rfl (by rfl) Z.n_isinstance (by rfl) Z.n_list b_list (d_pk (pv 0)))) (toP (d_isi (T := .lst) (by decide) rfl (by rfl) Z.n_isinstance (by rfl) Z.n_list b_list (d_pk (pv 1)))) (nomark _))) (d_one (d_cmp monoR (o_eq rfl (room_un hr)) (toP (d_isi (T := .dic) (by decide) rfl (by rfl) Z.n_isinstance (by rfl) Z.n_dict b_dict (d_pk (pv 0)))) (toP (d_isi (T := .dic) (by decide) rfl (by rfl) Z.n_isinstance (by rfl) Z.n_dict b_dict (d_pk (pv 1)))) (nomark _)))))
  (s_one (s_ret (d_andV monoR blR (d_pk (pv 3)) (d_andV monoR blR (toP (d_not (toP (d_isi (T := .tup) (by decide) rfl (by rfl) Z.n_isinstance (by rfl) Z.n_tuple b_tuple (d_pk (pv 0)))))) (d_one (d_cmp monoR o_isb (toP (d_cmp monoR (o_eq rfl (room_un hr)) (d_pk (pv 0)) (d_pk (pv 1)) (nomark _))) (toP d_bl) (nomark _))))))))))))))
theorem N_is_whole : FnScope ["value"] ["value"] (defScope (top 3)) := ⟨rfl, rfl, rfl, by decide +kernel, rfl, by decide +kernel, by decide +kernel⟩
def B_is_whole : Sv := (sRet (eAnd (e1 (isiS .int) (pk 0)) (e1 notS (e1 (isiS .bl) (pk 0)))))
abbrev M_is_whole : List Slot → Sto → Res D := fnM 0 B_is_whole
abbrev sh_is_whole : List Shp := []
theorem D_is_whole (Z : Fx K mg base T) : DFn P w K mg base (G P w K mg base T) 1 (He.ga K "is_whole") 1 sh_is_whole M_is_whole := by
  obtain ⟨fd, F⟩ := Z.f_is_whole
  exact dfn_of F N_is_whole rfl rfl (fun kV doc pm an cdv ct us hl => match us, hl with | [_], _ => rfl) (by intro t ht kV doc pm an cdv ct us ws h1 h2; cases ht) (fun A outer s H E W hr => (s_one (s_ret (d_andV monoR blR (toP (d_isi (T := .int) (by decide) rfl (by rfl) Z.n_isinstance (by rfl) Z.n_int b_int (d_pk (pv 0)))) (d_one (d_not (toP (d_isi (T := .bl) (by decide) rfl (by rfl) Z.n_isinstance (by rfl) Z.n_bool b_bool (d_pk (pv 0))))))))))
theorem N_is_between : FnScope ["value", "least", "most"] ["value", "least", "most"] (defScope (top 4)) := ⟨rfl, rfl, rfl, by decide +kernel, rfl, by decide +kernel, by decide +kernel⟩
def B_is_between : Sv := (sRet (eAnd (eCall M_is_whole (eCons (vr 0) eNil)) (eChn leS leS (pk 1) (pk 0) (pk 2))))
abbrev M_is_between : List Slot → Sto → Res D := fnM 0 B_is_between
abbrev sh_is_between : List Shp := []
theorem D_is_between (Z : Fx K mg base T) : DFn P w K mg base (G P w K mg base T) 2 (He.ga K "is_between") 3 sh_is_between M_is_between := by
  obtain ⟨fd, F⟩ := Z.f_is_between
  exact dfn_of F N_is_between rfl rfl (fun kV doc pm an cdv ct us hl => match us, hl with | [_, _, _], _ => rfl) (by intro t ht kV doc pm an cdv ct us ws h1 h2; cases ht) (fun A outer s H E W hr => (s_one (s_ret (d_andV monoR blR (toP (c_call tkF (D_is_whole Z) hr (by omega) (by rfl) Z.g_is_whole (d_cons (d_vr (pv 0)) d_nil))) (d_one (d_chain (o_le rfl (room_un hr)) (o_le rfl (room_un hr)) (d_pk (pv 1)) (d_pk (pv 0)) (d_pk (pv 2)) (fun h1 h2 h3 h4 h5 => pe_chain h1 h2 h3 h4 h5)))))))
theorem N_check_many : FnScope ["many"] ["many"] (defScope (top 50)) := ⟨rfl, rfl, rfl, by decide +kernel, rfl, by decide +kernel, by decide +kernel⟩
def B_check_many : Sv := (sIf (tNot (tT (eCall M_is_between (eCons (vr 0) (eCons (kc (.int 1)) (eCons (kc (.int 15)) eNil)))))) sBad sNil)
abbrev M_check_many : List Slot → Sto → Res D := fnM 0 B_check_many
abbrev sh_check_many : List Shp := []
theorem D_check_many (Z : Fx K mg base T) : DFn P w K mg base (G P w K mg base T) 3 (He.ga K "check_many") 1 sh_check_many M_check_many := by
  obtain ⟨fd, F⟩ := Z.f_check_many
  exact dfn_of F N_check_many rfl rfl (fun kV doc pm an cdv ct us hl => match us, hl with | [_], _ => rfl) (by intro t ht kV doc pm an cdv ct us ws h1 h2; cases ht) (fun A outer s H E W hr => (s_one (s_if (d_tnot (d_tT rfl (toP (c_call tkF (D_is_between Z) hr (by omega) (by rfl) Z.g_is_between (d_cons (d_vr (pv 0)) (d_cons d_int (d_cons (d_gint (by rfl) Z.i_MOST_PARTS) d_nil))))))) (s_one s_bad) s_nil)))
theorem N_is_tuple_of : FnScope ["value", "many"] ["value", "many"] (defScope (top 7)) := ⟨rfl, rfl, rfl, by decide +kernel, rfl, by decide +kernel, by decide +kernel⟩
def B_is_tuple_of : Sv := (sRet (eAnd (e1 (isiS .tup) (pk 0)) (e2 eqS (eN lenC (eCons (pk 0) eNil)) (pk 1))))
abbrev M_is_tuple_of : List Slot → Sto → Res D := fnM 0 B_is_tuple_of
abbrev sh_is_tuple_of : List Shp := []
theorem D_is_tuple_of (Z : Fx K mg base T) : DFn P w K mg base (G P w K mg base T) 1 (He.ga K "is_tuple_of") 2 sh_is_tuple_of M_is_tuple_of := by
  obtain ⟨fd, F⟩ := Z.f_is_tuple_of
  exact dfn_of F N_is_tuple_of rfl rfl (fun kV doc pm an cdv ct us hl => match us, hl with | [_, _], _ => rfl) (by intro t ht kV doc pm an cdv ct us ws h1 h2; cases ht) (fun A outer s H E W hr => (s_one (s_ret (d_andV monoR blR (toP (d_isi (T := .tup) (by decide) rfl (by rfl) Z.n_isinstance (by rfl) Z.n_tuple b_tuple (d_pk (pv 0)))) (d_one (d_cmp monoR (o_eq rfl (room_un hr)) (toP (d_callB monoR (c_len rfl) (by rfl) Z.n_len b_len (q_cons (d_pk (pv 0)) q_nil))) (d_pk (pv 1)) (nomark _)))))))
theorem N_is_pair : FnScope ["value"] ["value"] (defScope (top 8)) := ⟨rfl, rfl, rfl, by decide +kernel, rfl, by decide +kernel, by decide +kernel⟩
def B_is_pair : Sv := (sRet (eCall M_is_tuple_of (eCons (vr 0) (eCons (kc (.int 2)) eNil))))
abbrev M_is_pair : List Slot → Sto → Res D := fnM 0 B_is_pair
abbrev sh_is_pair : List Shp := []
theorem D_is_pair (Z : Fx K mg base T) : DFn P w K mg base (G P w K mg base T) 2 (He.ga K "is_pair") 1 sh_is_pair M_is_pair := by
  obtain ⟨fd, F⟩ := Z.f_is_pair
  exact dfn_of F N_is_pair rfl rfl (fun kV doc pm an cdv ct us hl => match us, hl with | [_], _ => rfl) (by intro t ht kV doc pm an cdv ct us ws h1 h2; cases ht) (fun A outer s H E W hr => (s_one (s_ret (c_call tkF (D_is_tuple_of Z) hr (by omega) (by rfl) Z.g_is_tuple_of (d_cons (d_vr (pv 0)) (d_cons d_int d_nil))))))
theorem N_is_chance : FnScope ["value"] ["value"] (defScope (top 14)) := ⟨rfl, rfl, rfl, by decide +kernel, rfl, by decide +kernel, by decide +kernel⟩
def B_is_chance : Sv := (sSeq (sIf (tOr (tNot (tT (eCall M_is_pair (eCons (vr 0) eNil)))) (tOr (tNot (tT (eCall M_is_whole (eCons (e2 ixS (pk 0) (kc (.int 0))) eNil)))) (tNot (tT (eCall M_is_whole (eCons (e2 ixS (pk 0) (kc (.int 1))) eNil)))))) (sRet (kc (.bl false))) sNil)
  (sRet (eAnd (eChn ltS leS (kc (.int 0)) (e2 ixS (pk 0) (kc (.int 0))) (e2 ixS (pk 0) (kc (.int 1)))) (e2 eqS (eN gcdC (eCons (e2 ixS (pk 0) (kc (.int 0))) (eCons (e2 ixS (pk 0) (kc (.int 1))) eNil))) (kc (.int 1))))))
abbrev M_is_chance : List Slot → Sto → Res D := fnM 0 B_is_chance
abbrev sh_is_chance : List Shp := []
theorem D_is_chance (Z : Fx K mg base T) : DFn P w K mg base (G P w K mg base T) 3 (He.ga K "is_chance") 1 sh_is_chance M_is_chance := by
  obtain ⟨fd, F⟩ := Z.f_is_chance
  exact dfn_of F N_is_chance rfl rfl (fun kV doc pm an cdv ct us hl => match us, hl with | [_], _ => rfl) (by intro t ht kV doc pm an cdv ct us ws h1 h2; cases ht) (fun A outer s H E W hr => (s_cons (s_if (PW.pt (d_or (d_tnot (d_tT rfl (toP (c_call tkF (D_is_pair Z) hr (by omega) (by rfl) Z.g_is_pair (d_cons (d_vr (pv 0)) d_nil))))) (d_or (d_tnot (d_tT rfl (toP (c_call tkF (D_is_whole Z) hr (by omega) (by rfl) Z.g_is_whole (d_cons (d_ix rfl (room_un1 hr) (d_pk (pv 0)) (toP d_int)) d_nil))))) (d_or1 (d_tnot (d_tT rfl (toP (c_call tkF (D_is_whole Z) hr (by omega) (by rfl) Z.g_is_whole (d_cons (d_ix rfl (room_un1 hr) (d_pk (pv 0)) (toP d_int)) d_nil))))))))) (s_one (s_ret d_bl)) s_nil)
  (s_one (s_ret (d_andV monoR blR (toP (d_chain (o_lt rfl (room_un hr)) (o_le rfl (room_un hr)) (toP d_int) (toP (d_ix rfl (room_un1 hr) (d_pk (pv 0)) (toP d_int))) (toP (d_ix rfl (room_un1 hr) (d_pk (pv 0)) (toP d_int))) (fun h1 h2 h3 h4 h5 => pe_chain h1 h2 h3 h4 h5))) (d_one (d_cmp monoR (o_eq rfl (room_un hr)) (toP (d_callBf monoR c_gcd (by rfl) Z.b_gcd (q_cons (toP (d_ix rfl (room_un1 hr) (d_pk (pv 0)) (toP d_int))) (q_cons (toP (d_ix rfl (room_un1 hr) (d_pk (pv 0)) (toP d_int))) q_nil)))) (toP d_int) (nomark _))))))))
theorem N_check_comes : FnScope ["comes"] ["comes"] (defScope (top 31)) := ⟨rfl, rfl, rfl, by decide +kernel, rfl, by decide +kernel, by decide +kernel⟩
def B_check_comes : Sv := (sIf (tNot (tT (eCall M_is_chance (eCons (vr 0) eNil)))) sBad sNil)
abbrev M_check_comes : List Slot → Sto → Res D := fnM 0 B_check_comes
abbrev sh_check_comes : List Shp := []
theorem D_check_comes (Z : Fx K mg base T) : DFn P w K mg base (G P w K mg base T) 4 (He.ga K "check_comes") 1 sh_check_comes M_check_comes := by
  obtain ⟨fd, F⟩ := Z.f_check_comes
  exact dfn_of F N_check_comes rfl rfl (fun kV doc pm an cdv ct us hl => match us, hl with | [_], _ => rfl) (by intro t ht kV doc pm an cdv ct us ws h1 h2; cases ht) (fun A outer s H E W hr => (s_one (s_if (d_tnot (d_tT rfl (toP (c_call tkF (D_is_chance Z) hr (by omega) (by rfl) Z.g_is_chance (d_cons (d_vr (pv 0)) d_nil))))) (s_one s_bad) s_nil)))
theorem N_check_both : FnScope ["many", "comes"] ["many", "comes"] (defScope (top 56)) := ⟨rfl, rfl, rfl, by decide +kernel, rfl, by decide +kernel, by decide +kernel⟩
def B_check_both : Sv := (sSeq (sExpr (eCall M_check_many (eCons (vr 0) eNil)))
  (sExpr (eCall M_check_comes (eCons (vr 1) eNil))))
abbrev M_check_both : List Slot → Sto → Res D := fnM 0 B_check_both
abbrev sh_check_both : List Shp := []
theorem D_check_both (Z : Fx K mg base T) : DFn P w K mg base (G P w K mg base T) 5 (He.ga K "check_both") 2 sh_check_both M_check_both := by
  obtain ⟨fd, F⟩ := Z.f_check_both
  exact dfn_of F N_check_both rfl rfl (fun kV doc pm an cdv ct us hl => match us, hl with | [_, _], _ => rfl) (by intro t ht kV doc pm an cdv ct us ws h1 h2; cases ht) (fun A outer s H E W hr => (s_cons (s_expr (c_call tkF (D_check_many Z) hr (by omega) (by rfl) Z.g_check_many (d_cons (d_vr (pv 0)) d_nil)))
  (s_one (s_expr (c_call tkF (D_check_comes Z) hr (by omega) (by rfl) Z.g_check_comes (d_cons (d_vr (pv 1)) d_nil))))))
theorem N_less_from_one : FnScope ["fraction"] ["fraction"] (defScope (top 39)) := ⟨rfl, rfl, rfl, by decide +kernel, rfl, by decide +kernel, by decide +kernel⟩
def B_less_from_one : Sv := (sRet (eTup (eCons (e2 subS (e2 ixS (pk 0) (kc (.int 1))) (e2 ixS (pk 0) (kc (.int 0)))) (eCons (e2 ixS (pk 0) (kc (.int 1))) eNil))))
abbrev M_less_from_one : List Slot → Sto → Res D := fnM 0 B_less_from_one
abbrev sh_less_from_one : List Shp := []
theorem D_less_from_one (Z : Fx K mg base T) : DFn P w K mg base (G P w K mg base T) 1 (He.ga K "less_from_one") 1 sh_less_from_one M_less_from_one := by
  obtain ⟨fd, F⟩ := Z.f_less_from_one
  exact dfn_of F N_less_from_one rfl rfl (fun kV doc pm an cdv ct us hl => match us, hl with | [_], _ => rfl) (by intro t ht kV doc pm an cdv ct us ws h1 h2; cases ht) (fun A outer s H E W hr => (s_one (s_ret (d_tup (d_cons (d_op monoR o_sub (toP (d_ix rfl (room_un1 hr) (d_pk (pv 0)) (toP d_int))) (toP (d_ix rfl (room_un1 hr) (d_pk (pv 0)) (toP d_int)))) (d_cons (d_ix rfl (room_un1 hr) (d_pk (pv 0)) (toP d_int)) d_nil))))))
theorem N_power : FnScope ["number", "many", "found", "_"] ["number", "many"] (defScope (top 16)) := ⟨rfl, rfl, rfl, by decide +kernel, rfl, by decide +kernel, by decide +kernel⟩
def B_power : Sv := (sSeq (sSet 2 (kc (.int 1)))
  (sSeq (sFor (.nm 3) (iRange (eCons (vr 1) eNil)) (sSet 2 (e2 mulS (pk 2) (pk 0))))
  (sRet (vr 2))))
abbrev M_power : List Slot → Sto → Res D := fnM 2 B_power
abbrev sh_power : List Shp := []
theorem D_power (Z : Fx K mg base T) : DFn P w K mg base (G P w K mg base T) 1 (He.ga K "power") 2 sh_power M_power := by
  obtain ⟨fd, F⟩ := Z.f_power
  exact dfn_of F N_power rfl rfl (fun kV doc pm an cdv ct us hl => match us, hl with | [_, _], _ => rfl) (by intro t ht kV doc pm an cdv ct us ws h1 h2; cases ht) (fun A outer s H E W hr => (s_cons (s_set (i := 2) N_power.nd rfl (by first | exact Or.inl rfl | exact Or.inr rfl) d_int)
  (s_cons (s_for owF rfl (i_range1 (by rfl) Z.n_range (d_cons (d_vr (pv 1)) d_nil)) (g_nm (i := 3) N_power.nd (by rfl) (by first | exact Or.inl rfl | exact Or.inr rfl)) (s_one (s_set (i := 2) N_power.nd rfl (by first | exact Or.inl rfl | exact Or.inr rfl) (d_op monoR (o_mul rfl) (d_pk (pv 2)) (d_pk (pv 0))))))
  (s_one (s_ret (d_vr (pv 2)))))))
theorem N_to_power : FnScope ["fraction", "many"] ["fraction", "many"] (defScope (top 42)) := ⟨rfl, rfl, rfl, by decide +kernel, rfl, by decide +kernel, by decide +kernel⟩
def B_to_power : Sv := (sRet (eTup (eCons (eCall M_power (eCons (e2 ixS (pk 0) (kc (.int 0))) (eCons (vr 1) eNil))) (eCons (eCall M_power (eCons (e2 ixS (pk 0) (kc (.int 1))) (eCons (vr 1) eNil))) eNil))))
abbrev M_to_power : List Slot → Sto → Res D := fnM 0 B_to_power
abbrev sh_to_power : List Shp := []
theorem D_to_power (Z : Fx K mg base T) : DFn P w K mg base (G P w K mg base T) 2 (He.ga K "to_power") 2 sh_to_power M_to_power := by
  obtain ⟨fd, F⟩ := Z.f_to_power
  exact dfn_of F N_to_power rfl rfl (fun kV doc pm an cdv ct us hl => match us, hl with | [_, _], _ => rfl) (by intro t ht kV doc pm an cdv ct us ws h1 h2; cases ht) (fun A outer s H E W hr => (s_one (s_ret (d_tup (d_cons (c_call tkF (D_power Z) hr (by omega) (by rfl) Z.g_power (d_cons (d_ix rfl (room_un1 hr) (d_pk (pv 0)) (toP d_int)) (d_cons (d_vr (pv 1)) d_nil))) (d_cons (c_call tkF (D_power Z) hr (by omega) (by rfl) Z.g_power (d_cons (d_ix rfl (room_un1 hr) (d_pk (pv 0)) (toP d_int)) (d_cons (d_vr (pv 1)) d_nil))) d_nil))))))
theorem N_lowest : FnScope ["above", "below", "common"] ["above", "below"] (defScope (top 15)) := ⟨rfl, rfl, rfl, by decide +kernel, rfl, by decide +kernel, by decide +kernel⟩
def B_lowest : Sv := (sSeq (sSet 2 (eN gcdC (eCons (pk 0) (eCons (pk 1) eNil))))
  (sRet (eTup (eCons (e2 fdivS (pk 0) (pk 2)) (eCons (e2 fdivS (pk 1) (pk 2)) eNil)))))
abbrev M_lowest : List Slot → Sto → Res D := fnM 1 B_lowest
abbrev sh_lowest : List Shp := []
theorem D_lowest (Z : Fx K mg base T) : DFn P w K mg base (G P w K mg base T) 1 (He.ga K "lowest") 2 sh_lowest M_lowest := by
  obtain ⟨fd, F⟩ := Z.f_lowest
  exact dfn_of F N_lowest rfl rfl (fun kV doc pm an cdv ct us hl => match us, hl with | [_, _], _ => rfl) (by intro t ht kV doc pm an cdv ct us ws h1 h2; cases ht) (fun A outer s H E W hr => (s_cons (s_set (i := 2) N_lowest.nd rfl (by first | exact Or.inl rfl | exact Or.inr rfl) (d_callBf monoR c_gcd (by rfl) Z.b_gcd (q_cons (d_pk (pv 0)) (q_cons (d_pk (pv 1)) q_nil))))
  (s_one (s_ret (d_tup (d_cons (d_op monoR o_fdiv (d_pk (pv 0)) (d_pk (pv 2))) (d_cons (d_op monoR o_fdiv (d_pk (pv 1)) (d_pk (pv 2))) d_nil)))))))
theorem N_plus : FnScope ["fraction", "other"] ["fraction", "other"] (defScope (top 41)) := ⟨rfl, rfl, rfl, by decide +kernel, rfl, by decide +kernel, by decide +kernel⟩
def B_plus : Sv := (sRet (eCall M_lowest (eCons (e2 addS (e2 mulS (e2 ixS (pk 0) (kc (.int 0))) (e2 ixS (pk 1) (kc (.int 1)))) (e2 mulS (e2 ixS (pk 1) (kc (.int 0))) (e2 ixS (pk 0) (kc (.int 1))))) (eCons (e2 mulS (e2 ixS (pk 0) (kc (.int 1))) (e2 ixS (pk 1) (kc (.int 1)))) eNil))))
abbrev M_plus : List Slot → Sto → Res D := fnM 0 B_plus
abbrev sh_plus : List Shp := []
theorem D_plus (Z : Fx K mg base T) : DFn P w K mg base (G P w K mg base T) 2 (He.ga K "plus") 2 sh_plus M_plus := by
  obtain ⟨fd, F⟩ := Z.f_plus
  exact dfn_of F N_plus rfl rfl (fun kV doc pm an cdv ct us hl => match us, hl with | [_, _], _ => rfl) (by intro t ht kV doc pm an cdv ct us ws h1 h2; cases ht) (fun A outer s H E W hr => (s_one (s_ret (c_call tkF (D_lowest Z) hr (by omega) (by rfl) Z.g_lowest (d_cons (d_op monoR (o_add rfl) (toP (d_op monoR (o_mul rfl) (toP (d_ix rfl (room_un1 hr) (d_pk (pv 0)) (toP d_int))) (toP (d_ix rfl (room_un1 hr) (d_pk (pv 1)) (toP d_int))))) (toP (d_op monoR (o_mul rfl) (toP (d_ix rfl (room_un1 hr) (d_pk (pv 1)) (toP d_int))) (toP (d_ix rfl (room_un1 hr) (d_pk (pv 0)) (toP d_int)))))) (d_cons (d_op monoR (o_mul rfl) (toP (d_ix rfl (room_un1 hr) (d_pk (pv 0)) (toP d_int))) (toP (d_ix rfl (room_un1 hr) (d_pk (pv 1)) (toP d_int)))) d_nil))))))
theorem N_ways_of : FnScope ["many", "some", "found", "at"] ["many", "some"] (defScope (top 44)) := ⟨rfl, rfl, rfl, by decide +kernel, rfl, by decide +kernel, by decide +kernel⟩
def B_ways_of : Sv := (sSeq (sSet 2 (kc (.int 1)))
  (sSeq (sFor (.nm 3) (iRange (eCons (vr 1) eNil)) (sSet 2 (e2 fdivS (e2 mulS (pk 2) (e2 subS (pk 0) (pk 3))) (e2 addS (pk 3) (kc (.int 1))))))
  (sRet (vr 2))))
abbrev M_ways_of : List Slot → Sto → Res D := fnM 2 B_ways_of
abbrev sh_ways_of : List Shp := []
theorem D_ways_of (Z : Fx K mg base T) : DFn P w K mg base (G P w K mg base T) 1 (He.ga K "ways_of") 2 sh_ways_of M_ways_of := by
  obtain ⟨fd, F⟩ := Z.f_ways_of
  exact dfn_of F N_ways_of rfl rfl (fun kV doc pm an cdv ct us hl => match us, hl with | [_, _], _ => rfl) (by intro t ht kV doc pm an cdv ct us ws h1 h2; cases ht) (fun A outer s H E W hr => (s_cons (s_set (i := 2) N_ways_of.nd rfl (by first | exact Or.inl rfl | exact Or.inr rfl) d_int)
  (s_cons (s_for owF rfl (i_range1 (by rfl) Z.n_range (d_cons (d_vr (pv 1)) d_nil)) (g_nm (i := 3) N_ways_of.nd (by rfl) (by first | exact Or.inl rfl | exact Or.inr rfl)) (s_one (s_set (i := 2) N_ways_of.nd rfl (by first | exact Or.inl rfl | exact Or.inr rfl) (d_op monoR o_fdiv (toP (d_op monoR (o_mul rfl) (d_pk (pv 2)) (toP (d_op monoR o_sub (d_pk (pv 0)) (d_pk (pv 3)))))) (toP (d_op monoR (o_add rfl) (d_pk (pv 3)) (toP d_int)))))))
  (s_one (s_ret (d_vr (pv 2)))))))
theorem N_told_by : FnScope ["many", "comes", "total", "some", "rest", "sign"] ["many", "comes"] (defScope (top 45)) := ⟨rfl, rfl, rfl, by decide +kernel, rfl, by decide +kernel, by decide +kernel⟩
def B_told_by : Sv := (sSeq (sSet 2 (eTup (eCons (kc (.int 0)) (eCons (kc (.int 1)) eNil))))
  (sSeq (sFor (.nm 3) (iRange (eCons (kc (.int 1)) (eCons (e2 addS (pk 0) (kc (.int 1))) eNil))) (sSeq (sSet 4 (eCall M_less_from_one (eCons (eCall M_to_power (eCons (eCall M_less_from_one (eCons (vr 1) eNil)) (eCons (vr 3) eNil))) eNil)))
  (sSeq (sSet 5 (eIf (tB (e2 eqS (e2 modS (pk 3) (kc (.int 2))) (kc (.int 1)))) (kc (.int 1)) (e1 negS (kc (.int 1)))))
  (sSet 2 (eCall M_plus (eCons (vr 2) (eCons (eTup (eCons (e2 mulS (e2 mulS (pk 5) (eCall M_ways_of (eCons (vr 0) (eCons (vr 3) eNil)))) (e2 ixS (pk 4) (kc (.int 1)))) (eCons (e2 ixS (pk 4) (kc (.int 0))) eNil))) eNil)))))))
  (sRet (vr 2))))
abbrev M_told_by : List Slot → Sto → Res D := fnM 4 B_told_by
abbrev sh_told_by : List Shp := []
theorem D_told_by (Z : Fx K mg base T) : DFn P w K mg base (G P w K mg base T) 3 (He.ga K "told_by") 2 sh_told_by M_told_by := by
  obtain ⟨fd, F⟩ := Z.f_told_by
  exact dfn_of F N_told_by rfl rfl (fun kV doc pm an cdv ct us hl => match us, hl with | [_, _], _ => rfl) (by intro t ht kV doc pm an cdv ct us ws h1 h2; cases ht) (fun A outer s H E W hr => (s_cons (s_set (i := 2) N_told_by.nd rfl (by first | exact Or.inl rfl | exact Or.inr rfl) (d_tup (d_cons d_int (d_cons d_int d_nil))))
  (s_cons (s_for owF rfl (i_range2 (by rfl) Z.n_range (d_cons d_int (d_cons (d_op monoR (o_add rfl) (d_pk (pv 0)) (toP d_int)) d_nil))) (g_nm (i := 3) N_told_by.nd (by rfl) (by first | exact Or.inl rfl | exact Or.inr rfl)) (s_cons (s_set (i := 4) N_told_by.nd rfl (by first | exact Or.inl rfl | exact Or.inr rfl) (c_call tkF (D_less_from_one Z) hr (by omega) (by rfl) Z.g_less_from_one (d_cons (c_call tkF (D_to_power Z) hr (by omega) (by rfl) Z.g_to_power (d_cons (c_call tkF (D_less_from_one Z) hr (by omega) (by rfl) Z.g_less_from_one (d_cons (d_vr (pv 1)) d_nil)) (d_cons (d_vr (pv 3)) d_nil))) d_nil)))
  (s_cons (s_set (i := 5) N_told_by.nd rfl (by first | exact Or.inl rfl | exact Or.inr rfl) (d_if monoR (d_tcmp (o_eq rfl (room_un hr)) (toP (d_op monoR o_mod (d_pk (pv 3)) (toP d_int))) (toP d_int) (nomark _)) d_int (d_neg (toP d_int))))
  (s_one (s_set (i := 2) N_told_by.nd rfl (by first | exact Or.inl rfl | exact Or.inr rfl) (c_call tkF (D_plus Z) hr (by omega) (by rfl) Z.g_plus (d_cons (d_vr (pv 2)) (d_cons (d_tup (d_cons (d_op monoR (o_mul rfl) (toP (d_op monoR (o_mul rfl) (d_pk (pv 5)) (toP (c_call tkF (D_ways_of Z) hr (by omega) (by rfl) Z.g_ways_of (d_cons (d_vr (pv 0)) (d_cons (d_vr (pv 3)) d_nil)))))) (toP (d_ix rfl (room_un1 hr) (d_pk (pv 4)) (toP d_int)))) (d_cons (d_ix rfl (room_un1 hr) (d_pk (pv 4)) (toP d_int)) d_nil))) d_nil))))))))
  (s_one (s_ret (d_vr (pv 2)))))))
theorem N_mean_told : FnScope ["many", "comes"] ["many", "comes"] (defScope (top 58)) := ⟨rfl, rfl, rfl, by decide +kernel, rfl, by decide +kernel, by decide +kernel⟩
def B_mean_told : Sv := (sSeq (sExpr (eCall M_check_both (eCons (vr 0) (eCons (vr 1) eNil))))
  (sRet (eCall M_told_by (eCons (vr 0) (eCons (vr 1) eNil)))))
abbrev M_mean_told : List Slot → Sto → Res D := fnM 0 B_mean_told
abbrev sh_mean_told : List Shp := [(0, ["comes", "many"], [1, 0])]
theorem D_mean_told (Z : Fx K mg base T) : DFn P w K mg base (G P w K mg base T) 6 (He.ga K "mean_told") 2 sh_mean_told M_mean_told := by
  obtain ⟨fd, F⟩ := Z.f_mean_told
  exact dfn_of F N_mean_told rfl rfl (fun kV doc pm an cdv ct us hl => match us, hl with | [_, _], _ => rfl) (by intro t ht kV doc pm an cdv ct us ws h1 h2; cases ht with | head => exact (match us, ws, h1, h2 with | [], [_, _], _, _ => rfl) | tail _ ht => cases ht) (fun A outer s H E W hr => (s_cons (s_expr (c_call tkF (D_check_both Z) hr (by omega) (by rfl) Z.g_check_both (d_cons (d_vr (pv 0)) (d_cons (d_vr (pv 1)) d_nil))))
  (s_one (s_ret (c_call tkF (D_told_by Z) hr (by omega) (by rfl) Z.g_told_by (d_cons (d_vr (pv 0)) (d_cons (d_vr (pv 1)) d_nil)))))))
theorem N_on_by : FnScope ["many", "comes"] ["many", "comes"] (defScope (top 46)) := ⟨rfl, rfl, rfl, by decide +kernel, rfl, by decide +kernel, by decide +kernel⟩
def B_on_by : Sv := (sRet (eCall M_plus (eCons (eCall M_told_by (eCons (vr 0) (eCons (vr 1) eNil))) (eCons (eTup (eCons (e2 subS (e2 ixS (pk 1) (kc (.int 1))) (e2 ixS (pk 1) (kc (.int 0)))) (eCons (e2 ixS (pk 1) (kc (.int 0))) eNil))) eNil))))
abbrev M_on_by : List Slot → Sto → Res D := fnM 0 B_on_by
abbrev sh_on_by : List Shp := []
theorem D_on_by (Z : Fx K mg base T) : DFn P w K mg base (G P w K mg base T) 4 (He.ga K "on_by") 2 sh_on_by M_on_by := by
  obtain ⟨fd, F⟩ := Z.f_on_by
  exact dfn_of F N_on_by rfl rfl (fun kV doc pm an cdv ct us hl => match us, hl with | [_, _], _ => rfl) (by intro t ht kV doc pm an cdv ct us ws h1 h2; cases ht) (fun A outer s H E W hr => (s_one (s_ret (c_call tkF (D_plus Z) hr (by omega) (by rfl) Z.g_plus (d_cons (c_call tkF (D_told_by Z) hr (by omega) (by rfl) Z.g_told_by (d_cons (d_vr (pv 0)) (d_cons (d_vr (pv 1)) d_nil))) (d_cons (d_tup (d_cons (d_op monoR o_sub (toP (d_ix rfl (room_un1 hr) (d_pk (pv 1)) (toP d_int))) (toP (d_ix rfl (room_un1 hr) (d_pk (pv 1)) (toP d_int)))) (d_cons (d_ix rfl (room_un1 hr) (d_pk (pv 1)) (toP d_int)) d_nil))) d_nil))))))
theorem N_mean_on : FnScope ["many", "comes"] ["many", "comes"] (defScope (top 59)) := ⟨rfl, rfl, rfl, by decide +kernel, rfl, by decide +kernel, by decide +kernel⟩
def B_mean_on : Sv := (sSeq (sExpr (eCall M_check_both (eCons (vr 0) (eCons (vr 1) eNil))))
  (sRet (eCall M_on_by (eCons (vr 0) (eCons (vr 1) eNil)))))
abbrev M_mean_on : List Slot → Sto → Res D := fnM 0 B_mean_on
abbrev sh_mean_on : List Shp := [(0, ["comes", "many"], [1, 0])]
theorem D_mean_on (Z : Fx K mg base T) : DFn P w K mg base (G P w K mg base T) 6 (He.ga K "mean_on") 2 sh_mean_on M_mean_on := by
  obtain ⟨fd, F⟩ := Z.f_mean_on
  exact dfn_of F N_mean_on rfl rfl (fun kV doc pm an cdv ct us hl => match us, hl with | [_, _], _ => rfl) (by intro t ht kV doc pm an cdv ct us ws h1 h2; cases ht with | head => exact (match us, ws, h1, h2 with | [], [_, _], _, _ => rfl) | tail _ ht => cases ht) (fun A outer s H E W hr => (s_cons (s_expr (c_call tkF (D_check_both Z) hr (by omega) (by rfl) Z.g_check_both (d_cons (d_vr (pv 0)) (d_cons (d_vr (pv 1)) d_nil))))
  (s_one (s_ret (c_call tkF (D_on_by Z) hr (by omega) (by rfl) Z.g_on_by (d_cons (d_vr (pv 0)) (d_cons (d_vr (pv 1)) d_nil)))))))
theorem N_is_up_to : FnScope ["value", "most"] ["value", "most"] (defScope (top 5)) := ⟨rfl, rfl, rfl, by decide +kernel, rfl, by decide +kernel, by decide +kernel⟩
def B_is_up_to : Sv := (sRet (eCall M_is_between (eCons (vr 0) (eCons (kc (.int 0)) (eCons (vr 1) eNil)))))
abbrev M_is_up_to : List Slot → Sto → Res D := fnM 0 B_is_up_to
abbrev sh_is_up_to : List Shp := []
theorem D_is_up_to (Z : Fx K mg base T) : DFn P w K mg base (G P w K mg base T) 3 (He.ga K "is_up_to") 2 sh_is_up_to M_is_up_to := by
  obtain ⟨fd, F⟩ := Z.f_is_up_to
  exact dfn_of F N_is_up_to rfl rfl (fun kV doc pm an cdv ct us hl => match us, hl with | [_, _], _ => rfl) (by intro t ht kV doc pm an cdv ct us ws h1 h2; cases ht) (fun A outer s H E W hr => (s_one (s_ret (c_call tkF (D_is_between Z) hr (by omega) (by rfl) Z.g_is_between (d_cons (d_vr (pv 0)) (d_cons d_int (d_cons (d_vr (pv 1)) d_nil)))))))
theorem N_check_number : FnScope ["number"] ["number"] (defScope (top 49)) := ⟨rfl, rfl, rfl, by decide +kernel, rfl, by decide +kernel, by decide +kernel⟩
def B_check_number : Sv := (sIf (tNot (tT (eCall M_is_up_to (eCons (vr 0) (eCons (kc (.int 99)) eNil))))) sBad sNil)
abbrev M_check_number : List Slot → Sto → Res D := fnM 0 B_check_number
abbrev sh_check_number : List Shp := []
theorem D_check_number (Z : Fx K mg base T) : DFn P w K mg base (G P w K mg base T) 4 (He.ga K "check_number") 1 sh_check_number M_check_number := by
  obtain ⟨fd, F⟩ := Z.f_check_number
  exact dfn_of F N_check_number rfl rfl (fun kV doc pm an cdv ct us hl => match us, hl with | [_], _ => rfl) (by intro t ht kV doc pm an cdv ct us ws h1 h2; cases ht) (fun A outer s H E W hr => (s_one (s_if (d_tnot (d_tT rfl (toP (c_call tkF (D_is_up_to Z) hr (by omega) (by rfl) Z.g_is_up_to (d_cons (d_vr (pv 0)) (d_cons (d_gint (by rfl) Z.i_MOST_NUMBER) d_nil)))))) (s_one s_bad) s_nil)))
theorem N_within_by : FnScope ["many", "comes", "rounds", "below", "above"] ["many", "comes", "rounds"] (defScope (top 43)) := ⟨rfl, rfl, rfl, by decide +kernel, rfl, by decide +kernel, by decide +kernel⟩
def B_within_by : Sv := (sSeq (sTg (.tp [(.nm 4), (.nm 3)]) (eCall M_to_power (eCons (eCall M_less_from_one (eCons (eCall M_to_power (eCons (eCall M_less_from_one (eCons (vr 1) eNil)) (eCons (vr 2) eNil))) eNil)) (eCons (vr 0) eNil))))
  (sRet (eCall M_lowest (eCons (vr 4) (eCons (vr 3) eNil)))))
abbrev M_within_by : List Slot → Sto → Res D := fnM 2 B_within_by
abbrev sh_within_by : List Shp := []
theorem D_within_by (Z : Fx K mg base T) : DFn P w K mg base (G P w K mg base T) 3 (He.ga K "within_by") 3 sh_within_by M_within_by := by
  obtain ⟨fd, F⟩ := Z.f_within_by
  exact dfn_of F N_within_by rfl rfl (fun kV doc pm an cdv ct us hl => match us, hl with | [_, _, _], _ => rfl) (by intro t ht kV doc pm an cdv ct us ws h1 h2; cases ht) (fun A outer s H E W hr => (s_cons (s_tg (c_call tkF (D_to_power Z) hr (by omega) (by rfl) Z.g_to_power (d_cons (c_call tkF (D_less_from_one Z) hr (by omega) (by rfl) Z.g_less_from_one (d_cons (c_call tkF (D_to_power Z) hr (by omega) (by rfl) Z.g_to_power (d_cons (c_call tkF (D_less_from_one Z) hr (by omega) (by rfl) Z.g_less_from_one (d_cons (d_vr (pv 1)) d_nil)) (d_cons (d_vr (pv 2)) d_nil))) d_nil)) (d_cons (d_vr (pv 0)) d_nil))) (g_tp rfl rfl (gs_cons (g_nm (i := 4) N_within_by.nd (by rfl) (by first | exact Or.inl rfl | exact Or.inr rfl)) (gs_cons (g_nm (i := 3) N_within_by.nd (by rfl) (by first | exact Or.inl rfl | exact Or.inr rfl)) gs_nil)) (by rfl)))
  (s_one (s_ret (c_call tkF (D_lowest Z) hr (by omega) (by rfl) Z.g_lowest (d_cons (d_vr (pv 4)) (d_cons (d_vr (pv 3)) d_nil)))))))
theorem N_told_within : FnScope ["many", "comes", "rounds"] ["many", "comes", "rounds"] (defScope (top 57)) := ⟨rfl, rfl, rfl, by decide +kernel, rfl, by decide +kernel, by decide +kernel⟩
def B_told_within : Sv := (sSeq (sExpr (eCall M_check_both (eCons (vr 0) (eCons (vr 1) eNil))))
  (sSeq (sExpr (eCall M_check_number (eCons (vr 2) eNil)))
  (sRet (eCall M_within_by (eCons (vr 0) (eCons (vr 1) (eCons (vr 2) eNil)))))))
abbrev M_told_within : List Slot → Sto → Res D := fnM 0 B_told_within
abbrev sh_told_within : List Shp := [(0, ["rounds", "comes", "many"], [2, 1, 0])]
theorem D_told_within (Z : Fx K mg base T) : DFn P w K mg base (G P w K mg base T) 6 (He.ga K "told_within") 3 sh_told_within M_told_within := by
  obtain ⟨fd, F⟩ := Z.f_told_within
  exact dfn_of F N_told_within rfl rfl (fun kV doc pm an cdv ct us hl => match us, hl with | [_, _, _], _ => rfl) (by intro t ht kV doc pm an cdv ct us ws h1 h2; cases ht with | head => exact (match us, ws, h1, h2 with | [], [_, _, _], _, _ => rfl) | tail _ ht => cases ht) (fun A outer s H E W hr => (s_cons (s_expr (c_call tkF (D_check_both Z) hr (by omega) (by rfl) Z.g_check_both (d_cons (d_vr (pv 0)) (d_cons (d_vr (pv 1)) d_nil))))
  (s_cons (s_expr (c_call tkF (D_check_number Z) hr (by omega) (by rfl) Z.g_check_number (d_cons (d_vr (pv 2)) d_nil)))
  (s_one (s_ret (c_call tkF (D_within_by Z) hr (by omega) (by rfl) Z.g_within_by (d_cons (d_vr (pv 0)) (d_cons (d_vr (pv 1)) (d_cons (d_vr (pv 2)) d_nil)))))))))
theorem N__law_within : FnScope ["many", "comes", "rounds"] ["many", "comes", "rounds"] (defScope (top 73)) := ⟨rfl, rfl, rfl, by decide +kernel, rfl, by decide +kernel, by decide +kernel⟩
def B__law_within : Sv := (sRet (eCall M__law_power (eCons (eCall M__law_less (eCons (eCall M__law_power (eCons (eCall M__law_less (eCons (vr 1) eNil)) (eCons (vr 2) eNil))) eNil)) (eCons (vr 0) eNil))))
abbrev M__law_within : List Slot → Sto → Res D := fnM 0 B__law_within
abbrev sh__law_within : List Shp := []
theorem D__law_within (Z : Fx K mg base T) : DFn P w K mg base (G P w K mg base T) 4 (He.ga K "_law_within") 3 sh__law_within M__law_within := by
  obtain ⟨fd, F⟩ := Z.f__law_within
  exact dfn_of F N__law_within rfl rfl (fun kV doc pm an cdv ct us hl => match us, hl with | [_, _, _], _ => rfl) (by intro t ht kV doc pm an cdv ct us ws h1 h2; cases ht) (fun A outer s H E W hr => (s_one (s_ret (c_call tkF (D__law_power Z) hr (by omega) (by rfl) Z.g__law_power (d_cons (c_call tkF (D__law_less Z) hr (by omega) (by rfl) Z.g__law_less (d_cons (c_call tkF (D__law_power Z) hr (by omega) (by rfl) Z.g__law_power (d_cons (c_call tkF (D__law_less Z) hr (by omega) (by rfl) Z.g__law_less (d_cons (d_vr (pv 1)) d_nil)) (d_cons (d_vr (pv 2)) d_nil))) d_nil)) (d_cons (d_vr (pv 0)) d_nil))))))
theorem N__law_two_right : FnScope ["well", "lap", "many", "comes", "due", "on", "more", "less", "total", "few", "rounds", "whole", "left", "rest", "told"] ["well"] (defScope (top 80)) := ⟨rfl, rfl, rfl, by decide +kernel, rfl, by decide +kernel, by decide +kernel⟩
def B__law_two_right : Sv := (sSeq (sFor (.nm 1) (iRange (eCons (kc (.int 2)) eNil)) (sSeq (sPar2 false false 2 3 (e2 addS (kc (.int 1)) (eCall M__law_draw (eCons (vr 0) (eCons (kc (.int 7)) eNil)))) (eCall M__law_comes (eCons (vr 0) eNil)))
  (sSeq (sPar2 false false 4 5 (eCall M__law_mean (eCons (vr 2) (eCons (vr 3) eNil))) (eCall M__law_mean_on (eCons (vr 2) (eCons (vr 3) eNil))))
  (sSeq (sIf (tNot (tT (eCall (M__law_same 8) (eCons (eTup (eCons (eCall M_mean_told (eCons (vr 2) (eCons (vr 3) eNil))) (eCons (eCallK M_mean_told [1, 0] eNil (eCons (vr 3) (eCons (vr 2) eNil))) eNil))) (eCons (eTup (eCons (vr 4) (eCons (vr 4) eNil))) eNil))))) (sRet (kc (.bl false))) sNil)
  (sSeq (sIf (tNot (tT (eCall (M__law_same 8) (eCons (eTup (eCons (eCall M_mean_on (eCons (vr 2) (eCons (vr 3) eNil))) (eCons (eCallK M_mean_on [1, 0] eNil (eCons (vr 3) (eCons (vr 2) eNil))) eNil))) (eCons (eTup (eCons (vr 5) (eCons (vr 5) eNil))) eNil))))) (sRet (kc (.bl false))) sNil)
  (sSeq (sPar2 false false 6 7 (eCall M_mean_told (eCons (e2 addS (pk 2) (kc (.int 1))) (eCons (vr 3) eNil))) (eCall M_mean_told (eCons (vr 2) (eCons (eCall M__law_lowest (eCons (e2 addS (e2 ixS (pk 3) (kc (.int 0))) (e2 ixS (pk 3) (kc (.int 1)))) (eCons (e2 mulS (kc (.int 2)) (e2 ixS (pk 3) (kc (.int 1)))) eNil))) eNil))))
  (sSeq (sIf (tOr (tB (e2 ltS (e2 mulS (e2 ixS (pk 6) (kc (.int 0))) (e2 ixS (pk 4) (kc (.int 1)))) (e2 mulS (e2 ixS (pk 4) (kc (.int 0))) (e2 ixS (pk 6) (kc (.int 1)))))) (tB (e2 ltS (e2 mulS (e2 ixS (pk 4) (kc (.int 0))) (e2 ixS (pk 7) (kc (.int 1)))) (e2 mulS (e2 ixS (pk 7) (kc (.int 0))) (e2 ixS (pk 4) (kc (.int 1))))))) (sRet (kc (.bl false))) sNil)
  (sSeq (sPar2 false false 8 9 (eTup (eCons (kc (.int 0)) (eCons (kc (.int 1)) eNil))) (eN min2C (eCons (pk 2) (eCons (kc (.int 2)) eNil))))
  (sSeq (sFor (.nm 10) (iRange (eCons (kc (.int 12)) eNil)) (sSet 8 (eCall M__law_added (eCons (vr 8) (eCons (eCall M__law_less (eCons (eCall M_told_within (eCons (vr 9) (eCons (vr 3) (eCons (vr 10) eNil)))) eNil)) eNil)))))
  (sSeq (sSet 11 (eCall M_mean_told (eCons (vr 9) (eCons (vr 3) eNil))))
  (sSeq (sIf (tOr (tB (e2 gtS (e2 mulS (e2 ixS (pk 8) (kc (.int 0))) (e2 ixS (pk 11) (kc (.int 1)))) (e2 mulS (e2 ixS (pk 11) (kc (.int 0))) (e2 ixS (pk 8) (kc (.int 1)))))) (tAnd (tB (e2 eqS (pk 3) (eTup (eCons (kc (.int 1)) (eCons (kc (.int 1)) eNil))))) (tB (e2 neS (pk 8) (pk 11))))) (sRet (kc (.bl false))) sNil)
  (sSeq (sSet 12 (eCall M__law_less (eCons (eCall M__law_within (eCons (vr 9) (eCons (vr 3) (eCons (kc (.int 12)) eNil)))) eNil)))
  (sSeq (sSet 13 (eCall M__law_times (eCons (vr 12) (eCons (vr 11) eNil))))
  (sIf (tB (e2 gtS (e2 mulS (e2 mulS (e2 ixS (pk 11) (kc (.int 0))) (e2 ixS (pk 8) (kc (.int 1)))) (e2 ixS (pk 13) (kc (.int 1)))) (e2 mulS (e2 addS (e2 mulS (e2 ixS (pk 8) (kc (.int 0))) (e2 ixS (pk 13) (kc (.int 1)))) (e2 mulS (e2 ixS (pk 13) (kc (.int 0))) (e2 ixS (pk 8) (kc (.int 1))))) (e2 ixS (pk 11) (kc (.int 1)))))) (sRet (kc (.bl false))) sNil))))))))))))))
  (sSeq (sSet 14 (eTup (eCons (eCall M_mean_told (eCons (kc (.int 1)) (eCons (eTup (eCons (kc (.int 1)) (eCons (kc (.int 2)) eNil))) eNil))) (eCons (eCall M_mean_told (eCons (kc (.int 2)) (eCons (eTup (eCons (kc (.int 1)) (eCons (kc (.int 2)) eNil))) eNil))) (eCons (eCall M_mean_on (eCons (kc (.int 1)) (eCons (eTup (eCons (kc (.int 1)) (eCons (kc (.int 2)) eNil))) eNil))) (eCons (eCall M_mean_on (eCons (kc (.int 3)) (eCons (eTup (eCons (kc (.int 1)) (eCons (kc (.int 1)) eNil))) eNil))) (eCons (eCall M_mean_told (eCons (kc (.int 15)) (eCons (eTup (eCons (kc (.int 1)) (eCons (kc (.int 1)) eNil))) eNil))) eNil)))))))
  (sRet (eCall (M__law_same 8) (eCons (vr 14) (eCons (eTup (eCons (eTup (eCons (kc (.int 2)) (eCons (kc (.int 1)) eNil))) (eCons (eTup (eCons (kc (.int 8)) (eCons (kc (.int 3)) eNil))) (eCons (eTup (eCons (kc (.int 3)) (eCons (kc (.int 1)) eNil))) (eCons (eTup (eCons (kc (.int 1)) (eCons (kc (.int 1)) eNil))) (eCons (eTup (eCons (kc (.int 1)) (eCons (kc (.int 1)) eNil))) eNil)))))) eNil))))))
abbrev M__law_two_right : List Slot → Sto → Res D := fnM 14 B__law_two_right
abbrev sh__law_two_right : List Shp := []
theorem D__law_two_right (Z : Fx K mg base T) : DFn P w K mg base (G P w K mg base T) 10 (He.ga K "_law_two_right") 1 sh__law_two_right M__law_two_right := by
  obtain ⟨fd, F⟩ := Z.f__law_two_right
  exact dfn_of F N__law_two_right rfl rfl (fun kV doc pm an cdv ct us hl => match us, hl with | [_], _ => rfl) (by intro t ht kV doc pm an cdv ct us ws h1 h2; cases ht) (fun A outer s H E W hr => (s_cons (s_for owF rfl (i_range1 (by rfl) Z.n_range (d_cons d_int d_nil)) (g_nm (i := 1) N__law_two_right.nd (by rfl) (by first | exact Or.inl rfl | exact Or.inr rfl)) (s_cons (s_par2 false false rfl N__law_two_right.nd (i := 2) (j := 3) rfl rfl (by decide) (by rfl) (by rfl) (d_op monoR (o_add rfl) (toP d_int) (toP (c_call tkF (D__law_draw Z) hr (by omega) (by rfl) Z.g__law_draw (d_cons (d_vr (pv 0)) (d_cons d_int d_nil))))) (c_call tkF (D__law_comes Z) hr (by omega) (by rfl) Z.g__law_comes (d_cons (d_vr (pv 0)) d_nil)) (by rfl))
  (s_cons (s_par2 false false rfl N__law_two_right.nd (i := 4) (j := 5) rfl rfl (by decide) (by rfl) (by rfl) (c_call tkF (D__law_mean Z) hr (by omega) (by rfl) Z.g__law_mean (d_cons (d_vr (pv 2)) (d_cons (d_vr (pv 3)) d_nil))) (c_call tkF (D__law_mean_on Z) hr (by omega) (by rfl) Z.g__law_mean_on (d_cons (d_vr (pv 2)) (d_cons (d_vr (pv 3)) d_nil))) (by rfl))
  (s_cons (s_if (d_tnot (d_tT rfl (toP (c_call tkF (D__law_same Z 8) hr (by omega) (by rfl) Z.g__law_same (d_cons (d_tup (d_cons (c_call tkF (D_mean_told Z) hr (by omega) (by rfl) Z.g_mean_told (d_cons (d_vr (pv 2)) (d_cons (d_vr (pv 3)) d_nil))) (d_cons (c_callK0 (ks := ["comes", "many"]) (ord := [1, 0]) tkF (D_mean_told Z) (by simp [sh_mean_told]) hr (by omega) (by rfl) Z.g_mean_told rfl rfl (by rfl) (k_kw (d_vr (pv 3)) (k_kw (d_vr (pv 2)) k_kw0))) d_nil))) (d_cons (d_tup (d_cons (d_vr (pv 4)) (d_cons (d_vr (pv 4)) d_nil))) d_nil)))))) (s_one (s_ret d_bl)) s_nil)
  (s_cons (s_if (d_tnot (d_tT rfl (toP (c_call tkF (D__law_same Z 8) hr (by omega) (by rfl) Z.g__law_same (d_cons (d_tup (d_cons (c_call tkF (D_mean_on Z) hr (by omega) (by rfl) Z.g_mean_on (d_cons (d_vr (pv 2)) (d_cons (d_vr (pv 3)) d_nil))) (d_cons (c_callK0 (ks := ["comes", "many"]) (ord := [1, 0]) tkF (D_mean_on Z) (by simp [sh_mean_on]) hr (by omega) (by rfl) Z.g_mean_on rfl rfl (by rfl) (k_kw (d_vr (pv 3)) (k_kw (d_vr (pv 2)) k_kw0))) d_nil))) (d_cons (d_tup (d_cons (d_vr (pv 5)) (d_cons (d_vr (pv 5)) d_nil))) d_nil)))))) (s_one (s_ret d_bl)) s_nil)
  (s_cons (s_par2 false false rfl N__law_two_right.nd (i := 6) (j := 7) rfl rfl (by decide) (by rfl) (by rfl) (c_call tkF (D_mean_told Z) hr (by omega) (by rfl) Z.g_mean_told (d_cons (d_op monoR (o_add rfl) (d_pk (pv 2)) (toP d_int)) (d_cons (d_vr (pv 3)) d_nil))) (c_call tkF (D_mean_told Z) hr (by omega) (by rfl) Z.g_mean_told (d_cons (d_vr (pv 2)) (d_cons (c_call tkF (D__law_lowest Z) hr (by omega) (by rfl) Z.g__law_lowest (d_cons (d_op monoR (o_add rfl) (toP (d_ix rfl (room_un1 hr) (d_pk (pv 3)) (toP d_int))) (toP (d_ix rfl (room_un1 hr) (d_pk (pv 3)) (toP d_int)))) (d_cons (d_op monoR (o_mul rfl) (toP d_int) (toP (d_ix rfl (room_un1 hr) (d_pk (pv 3)) (toP d_int)))) d_nil))) d_nil))) (by rfl))
  (s_cons (s_if (PW.pt (d_or (d_tcmp (o_lt rfl (room_un hr)) (toP (d_op monoR (o_mul rfl) (toP (d_ix rfl (room_un1 hr) (d_pk (pv 6)) (toP d_int))) (toP (d_ix rfl (room_un1 hr) (d_pk (pv 4)) (toP d_int))))) (toP (d_op monoR (o_mul rfl) (toP (d_ix rfl (room_un1 hr) (d_pk (pv 4)) (toP d_int))) (toP (d_ix rfl (room_un1 hr) (d_pk (pv 6)) (toP d_int))))) (nomark _)) (d_or1 (d_tcmp (o_lt rfl (room_un hr)) (toP (d_op monoR (o_mul rfl) (toP (d_ix rfl (room_un1 hr) (d_pk (pv 4)) (toP d_int))) (toP (d_ix rfl (room_un1 hr) (d_pk (pv 7)) (toP d_int))))) (toP (d_op monoR (o_mul rfl) (toP (d_ix rfl (room_un1 hr) (d_pk (pv 7)) (toP d_int))) (toP (d_ix rfl (room_un1 hr) (d_pk (pv 4)) (toP d_int))))) (nomark _))))) (s_one (s_ret d_bl)) s_nil)
  (s_cons (s_par2 false false rfl N__law_two_right.nd (i := 8) (j := 9) rfl rfl (by decide) (by rfl) (by rfl) (d_tup (d_cons d_int (d_cons d_int d_nil))) (d_callB monoR (c_min2 rfl) (by rfl) Z.n_min b_min (q_cons (d_pk (pv 2)) (q_cons (toP d_int) q_nil))) (by rfl))
  (s_cons (s_for owF rfl (i_range1 (by rfl) Z.n_range (d_cons d_int d_nil)) (g_nm (i := 10) N__law_two_right.nd (by rfl) (by first | exact Or.inl rfl | exact Or.inr rfl)) (s_one (s_set (i := 8) N__law_two_right.nd rfl (by first | exact Or.inl rfl | exact Or.inr rfl) (c_call tkF (D__law_added Z) hr (by omega) (by rfl) Z.g__law_added (d_cons (d_vr (pv 8)) (d_cons (c_call tkF (D__law_less Z) hr (by omega) (by rfl) Z.g__law_less (d_cons (c_call tkF (D_told_within Z) hr (by omega) (by rfl) Z.g_told_within (d_cons (d_vr (pv 9)) (d_cons (d_vr (pv 3)) (d_cons (d_vr (pv 10)) d_nil)))) d_nil)) d_nil))))))
  (s_cons (s_set (i := 11) N__law_two_right.nd rfl (by first | exact Or.inl rfl | exact Or.inr rfl) (c_call tkF (D_mean_told Z) hr (by omega) (by rfl) Z.g_mean_told (d_cons (d_vr (pv 9)) (d_cons (d_vr (pv 3)) d_nil))))
  (s_cons (s_if (PW.pt (d_or (d_tcmp (o_gt rfl (room_un hr)) (toP (d_op monoR (o_mul rfl) (toP (d_ix rfl (room_un1 hr) (d_pk (pv 8)) (toP d_int))) (toP (d_ix rfl (room_un1 hr) (d_pk (pv 11)) (toP d_int))))) (toP (d_op monoR (o_mul rfl) (toP (d_ix rfl (room_un1 hr) (d_pk (pv 11)) (toP d_int))) (toP (d_ix rfl (room_un1 hr) (d_pk (pv 8)) (toP d_int))))) (nomark _)) (d_or1 (PW.pt (d_and (d_tcmp (o_eq rfl (room_un hr)) (d_pk (pv 3)) (toP (d_tup (d_cons d_int (d_cons d_int d_nil)))) (nomark _)) (d_and1 (d_tcmp (o_ne rfl (room_un hr)) (d_pk (pv 8)) (d_pk (pv 11)) (nomark _)))))))) (s_one (s_ret d_bl)) s_nil)
  (s_cons (s_set (i := 12) N__law_two_right.nd rfl (by first | exact Or.inl rfl | exact Or.inr rfl) (c_call tkF (D__law_less Z) hr (by omega) (by rfl) Z.g__law_less (d_cons (c_call tkF (D__law_within Z) hr (by omega) (by rfl) Z.g__law_within (d_cons (d_vr (pv 9)) (d_cons (d_vr (pv 3)) (d_cons d_int d_nil)))) d_nil)))
  (s_cons (s_set (i := 13) N__law_two_right.nd rfl (by first | exact Or.inl rfl | exact Or.inr rfl) (c_call tkF (D__law_times Z) hr (by omega) (by rfl) Z.g__law_times (d_cons (d_vr (pv 12)) (d_cons (d_vr (pv 11)) d_nil))))
  (s_one (s_if (d_tcmp (o_gt rfl (room_un hr)) (toP (d_op monoR (o_mul rfl) (toP (d_op monoR (o_mul rfl) (toP (d_ix rfl (room_un1 hr) (d_pk (pv 11)) (toP d_int))) (toP (d_ix rfl (room_un1 hr) (d_pk (pv 8)) (toP d_int))))) (toP (d_ix rfl (room_un1 hr) (d_pk (pv 13)) (toP d_int))))) (toP (d_op monoR (o_mul rfl) (toP (d_op monoR (o_add rfl) (toP (d_op monoR (o_mul rfl) (toP (d_ix rfl (room_un1 hr) (d_pk (pv 8)) (toP d_int))) (toP (d_ix rfl (room_un1 hr) (d_pk (pv 13)) (toP d_int))))) (toP (d_op monoR (o_mul rfl) (toP (d_ix rfl (room_un1 hr) (d_pk (pv 13)) (toP d_int))) (toP (d_ix rfl (room_un1 hr) (d_pk (pv 8)) (toP d_int))))))) (toP (d_ix rfl (room_un1 hr) (d_pk (pv 11)) (toP d_int))))) (nomark _)) (s_one (s_ret d_bl)) s_nil)))))))))))))))
  (s_cons (s_set (i := 14) N__law_two_right.nd rfl (by first | exact Or.inl rfl | exact Or.inr rfl) (d_tup (d_cons (c_call tkF (D_mean_told Z) hr (by omega) (by rfl) Z.g_mean_told (d_cons d_int (d_cons (d_tup (d_cons d_int (d_cons d_int d_nil))) d_nil))) (d_cons (c_call tkF (D_mean_told Z) hr (by omega) (by rfl) Z.g_mean_told (d_cons d_int (d_cons (d_tup (d_cons d_int (d_cons d_int d_nil))) d_nil))) (d_cons (c_call tkF (D_mean_on Z) hr (by omega) (by rfl) Z.g_mean_on (d_cons d_int (d_cons (d_tup (d_cons d_int (d_cons d_int d_nil))) d_nil))) (d_cons (c_call tkF (D_mean_on Z) hr (by omega) (by rfl) Z.g_mean_on (d_cons d_int (d_cons (d_tup (d_cons d_int (d_cons d_int d_nil))) d_nil))) (d_cons (c_call tkF (D_mean_told Z) hr (by omega) (by rfl) Z.g_mean_told (d_cons d_int (d_cons (d_tup (d_cons d_int (d_cons d_int d_nil))) d_nil))) d_nil)))))))
  (s_one (s_ret (c_call tkF (D__law_same Z 8) hr (by omega) (by rfl) Z.g__law_same (d_cons (d_vr (pv 14)) (d_cons (d_tup (d_cons (d_tup (d_cons d_int (d_cons d_int d_nil))) (d_cons (d_tup (d_cons d_int (d_cons d_int d_nil))) (d_cons (d_tup (d_cons d_int (d_cons d_int d_nil))) (d_cons (d_tup (d_cons d_int (d_cons d_int d_nil))) (d_cons (d_tup (d_cons d_int (d_cons d_int d_nil))) d_nil)))))) d_nil))))))))
theorem N__law_of : FnScope ["well", "some"] ["well", "some"] (defScope (top 64)) := ⟨rfl, rfl, rfl, by decide +kernel, rfl, by decide +kernel, by decide +kernel⟩
def B__law_of : Sv := (sRet (e2 ixS (pk 1) (eCall M__law_draw (eCons (vr 0) (eCons (eN lenC (eCons (pk 1) eNil)) eNil)))))
abbrev M__law_of : List Slot → Sto → Res D := fnM 0 B__law_of
abbrev sh__law_of : List Shp := []
theorem D__law_of (Z : Fx K mg base T) : DFn P w K mg base (G P w K mg base T) 2 (He.ga K "_law_of") 2 sh__law_of M__law_of := by
  obtain ⟨fd, F⟩ := Z.f__law_of
  exact dfn_of F N__law_of rfl rfl (fun kV doc pm an cdv ct us hl => match us, hl with | [_, _], _ => rfl) (by intro t ht kV doc pm an cdv ct us ws h1 h2; cases ht) (fun A outer s H E W hr => (s_one (s_ret (d_ix rfl (room_un1 hr) (d_pk (pv 1)) (toP (c_call tkF (D__law_draw Z) hr (by omega) (by rfl) Z.g__law_draw (d_cons (d_vr (pv 0)) (d_cons (d_callB monoR (c_len rfl) (by rfl) Z.n_len b_len (q_cons (d_pk (pv 1)) q_nil)) d_nil))))))))
theorem N__law_names : FnScope ["well", "many", "letters", "found", "lap", "spot", "name"] ["well", "many", "letters"] (defScope (top 66)) := ⟨rfl, rfl, rfl, by decide +kernel, rfl, by decide +kernel, by decide +kernel⟩
def B__law_names : Sv := (sSeq (sOwn 3 (eLst eNil))
  (sSeq (sFor (.nm 4) (iRange (eCons (kc (.int 60)) eNil)) (sSeq (sSet 6 (eM .str joinM (kc (.str [])) (eCons (eLc (.nm 5) (iRange (eCons (e2 addS (kc (.int 1)) (eCall M__law_draw (eCons (vr 0) (eCons (kc (.int 3)) eNil)))) eNil)) tYes (eCall M__law_of (eCons (vr 0) (eCons (vr 2) eNil))) [5]) eNil)))
  (sIf (tAnd (tB (e2 ltS (eN lenC (eCons (pk 3) eNil)) (pk 1))) (tB (e2 notInS (pk 6) (e2 addS (pk 3) (eLst (eCons (kc (.str [112, 111, 115, 116])) (eCons (kc (.str [119, 97, 121])) (eCons (kc (.str [98, 105, 114, 100])) eNil)))))))) (sApp 3 (vr 6)) sNil)))
  (sRet (eN tupleC (eCons (eN sortedC (eCons (pk 3) eNil)) eNil)))))
abbrev M__law_names : List Slot → Sto → Res D := fnM 4 B__law_names
abbrev sh__law_names : List Shp := []
theorem D__law_names (Z : Fx K mg base T) : DFn P w K mg base (G P w K mg base T) 3 (He.ga K "_law_names") 3 sh__law_names M__law_names := by
  obtain ⟨fd, F⟩ := Z.f__law_names
  exact dfn_of F N__law_names rfl rfl (fun kV doc pm an cdv ct us hl => match us, hl with | [_, _, _], _ => rfl) (by intro t ht kV doc pm an cdv ct us ws h1 h2; cases ht) (fun A outer s H E W hr => (s_cons (s_own (i := 3) N__law_names.nd rfl (by first | exact Or.inl rfl | exact Or.inr rfl) (d_lst d_nil))
  (s_cons (s_for owF rfl (i_range1 (by rfl) Z.n_range (d_cons d_int d_nil)) (g_nm (i := 4) N__law_names.nd (by rfl) (by first | exact Or.inl rfl | exact Or.inr rfl)) (s_cons (s_set (i := 6) N__law_names.nd rfl (by first | exact Or.inl rfl | exact Or.inr rfl) (d_m (k := .str) rfl monoR PySem.F.plainAttrs_str PySem.F.slot_str_join PySem.F.type_str_join (m_join rfl) (toP (d_str (by rfl) (by rfl))) (q_cons (FtoP (d_lc rfl N__law_names.nd (i_range1 (by rfl) Z.n_range (d_cons (d_op monoR (o_add rfl) (toP d_int) (toP (c_call tkF (D__law_draw Z) hr (by omega) (by rfl) Z.g__law_draw (d_cons (d_vr (pv 0)) (d_cons d_int d_nil))))) d_nil)) (blkOk_by (own := [("spot", 5)]) (by kernel_rfl)) (by decide) (fun _ _ _ _ _ => (g_nm (i := 5) N__law_names.nd (by rfl) (by first | exact Or.inl rfl | exact Or.inr rfl))) (fun _ _ _ _ _ => d_ifs0) (fun _ _ _ _ _ => (c_call tkB (D__law_of Z) hr (by omega) (by rfl) Z.g__law_of (d_cons (d_vr (pv 0)) (d_cons (d_vr (pv 2)) d_nil)))))) q_nil)))
  (s_one (s_if (PW.pt (d_and (d_tcmp (o_lt rfl (room_un hr)) (toP (d_callB monoR (c_len rfl) (by rfl) Z.n_len b_len (q_cons (d_pk (pv 3)) q_nil))) (d_pk (pv 1)) (nomark _)) (d_and1 (d_tcmp (o_notIn rfl (room_un65 hr)) (d_pk (pv 6)) (toP (d_op monoR (o_add rfl) (d_pk (pv 3)) (FtoP (d_lst (d_cons (d_str (by rfl) (by rfl)) (d_cons (d_str (by rfl) (by rfl)) (d_cons (d_str (by rfl) (by rfl)) d_nil))))))) (by rfl))))) (s_one (s_app (pv 3) (d_vr (pv 6)))) s_nil))))
  (s_one (s_ret (d_callTy monoR (c_tuple rfl) (by rfl) Z.n_tuple b_tuple (q_cons (FtoP (d_callB monoF (c_sorted rfl) (by rfl) Z.n_sorted b_sorted (q_cons (d_pk (pv 3)) q_nil))) q_nil)))))))
theorem N__law_plan : FnScope ["well", "many", "names", "name"] ["well", "many"] (defScope (top 77)) := ⟨rfl, rfl, rfl, by decide +kernel, rfl, by decide +kernel, by decide +kernel⟩
def B__law_plan : Sv := (sSeq (sSet 2 (eCall M__law_names (eCons (vr 0) (eCons (eCall M__law_draw (eCons (vr 0) (eCons (kc (.int 8)) eNil))) (eCons (kc (.str [97, 98, 120, 121])) eNil)))))
  (sRet (eN tupleC (eCons (eLc (.nm 3) (iSeq (vr 2)) tYes (eTup (eCons (vr 3) (eCons (eCall M__law_draw (eCons (vr 0) (eCons (vr 1) eNil))) eNil))) [3]) eNil))))
abbrev M__law_plan : List Slot → Sto → Res D := fnM 2 B__law_plan
abbrev sh__law_plan : List Shp := []
theorem D__law_plan (Z : Fx K mg base T) : DFn P w K mg base (G P w K mg base T) 4 (He.ga K "_law_plan") 2 sh__law_plan M__law_plan := by
  obtain ⟨fd, F⟩ := Z.f__law_plan
  exact dfn_of F N__law_plan rfl rfl (fun kV doc pm an cdv ct us hl => match us, hl with | [_, _], _ => rfl) (by intro t ht kV doc pm an cdv ct us ws h1 h2; cases ht) (fun A outer s H E W hr => (s_cons (s_set (i := 2) N__law_plan.nd rfl (by first | exact Or.inl rfl | exact Or.inr rfl) (c_call tkF (D__law_names Z) hr (by omega) (by rfl) Z.g__law_names (d_cons (d_vr (pv 0)) (d_cons (c_call tkF (D__law_draw Z) hr (by omega) (by rfl) Z.g__law_draw (d_cons (d_vr (pv 0)) (d_cons d_int d_nil))) (d_cons (d_str (by rfl) (by rfl)) d_nil)))))
  (s_one (s_ret (d_callTy monoR (c_tuple rfl) (by rfl) Z.n_tuple b_tuple (q_cons (FtoP (d_lc rfl N__law_plan.nd (i_seq rfl (d_vr (pv 2))) (blkOk_by (own := [("name", 3)]) (by kernel_rfl)) (by decide) (fun _ _ _ _ _ => (g_nm (i := 3) N__law_plan.nd (by rfl) (by first | exact Or.inl rfl | exact Or.inr rfl))) (fun _ _ _ _ _ => d_ifs0) (fun _ _ _ _ _ => (d_tup (d_cons (d_vr (pv 3)) (d_cons (c_call tkB (D__law_draw Z) hr (by omega) (by rfl) Z.g__law_draw (d_cons (d_vr (pv 0)) (d_cons (d_vr (pv 1)) d_nil))) d_nil)))))) q_nil))))))
theorem N__law_plan_chance : FnScope ["many", "plan", "comes", "found", "part", "bird", "each", "birds"] ["many", "plan", "comes"] (defScope (top 78)) := ⟨rfl, rfl, rfl, by decide +kernel, rfl, by decide +kernel, by decide +kernel⟩
def B__law_plan_chance : Sv := (sSeq (sSet 3 (eTup (eCons (kc (.int 1)) (eCons (kc (.int 1)) eNil))))
  (sSeq (sFor (.nm 4) (iRange (eCons (vr 0) eNil)) (sSeq (sSet 7 (eN lenC (eCons (eLc (.tp [(.nm 5), (.nm 6)]) (iSeq (vr 1)) (tB (e2 eqS (pk 6) (pk 4))) (kc (.int 1)) [5, 6]) eNil)))
  (sSet 3 (eCall M__law_times (eCons (vr 3) (eCons (eCall M__law_less (eCons (eCall M__law_power (eCons (eCall M__law_less (eCons (vr 2) eNil)) (eCons (vr 7) eNil))) eNil)) eNil))))))
  (sRet (vr 3))))
abbrev M__law_plan_chance : List Slot → Sto → Res D := fnM 5 B__law_plan_chance
abbrev sh__law_plan_chance : List Shp := []
theorem D__law_plan_chance (Z : Fx K mg base T) : DFn P w K mg base (G P w K mg base T) 4 (He.ga K "_law_plan_chance") 3 sh__law_plan_chance M__law_plan_chance := by
  obtain ⟨fd, F⟩ := Z.f__law_plan_chance
  exact dfn_of F N__law_plan_chance rfl rfl (fun kV doc pm an cdv ct us hl => match us, hl with | [_, _, _], _ => rfl) (by intro t ht kV doc pm an cdv ct us ws h1 h2; cases ht) (fun A outer s H E W hr => (s_cons (s_set (i := 3) N__law_plan_chance.nd rfl (by first | exact Or.inl rfl | exact Or.inr rfl) (d_tup (d_cons d_int (d_cons d_int d_nil))))
  (s_cons (s_for owF rfl (i_range1 (by rfl) Z.n_range (d_cons (d_vr (pv 0)) d_nil)) (g_nm (i := 4) N__law_plan_chance.nd (by rfl) (by first | exact Or.inl rfl | exact Or.inr rfl)) (s_cons (s_set (i := 7) N__law_plan_chance.nd rfl (by first | exact Or.inl rfl | exact Or.inr rfl) (d_callB monoR (c_len rfl) (by rfl) Z.n_len b_len (q_cons (FtoP (d_lc rfl N__law_plan_chance.nd (i_seq rfl (d_vr (pv 1))) (blkOk_by (own := [("bird", 5), ("each", 6)]) (by kernel_rfl)) (by decide) (fun _ _ _ _ _ => (g_tp rfl rfl (gs_cons (g_nm (i := 5) N__law_plan_chance.nd (by rfl) (by first | exact Or.inl rfl | exact Or.inr rfl)) (gs_cons (g_nm (i := 6) N__law_plan_chance.nd (by rfl) (by first | exact Or.inl rfl | exact Or.inr rfl)) gs_nil)) (by rfl))) (fun _ _ _ _ _ => (d_ifs1 (d_tcmp (o_eq rfl (room_un hr)) (d_pk (pv 6)) (d_pk (pv 4)) (nomark _)))) (fun _ _ _ _ _ => d_int))) q_nil)))
  (s_one (s_set (i := 3) N__law_plan_chance.nd rfl (by first | exact Or.inl rfl | exact Or.inr rfl) (c_call tkF (D__law_times Z) hr (by omega) (by rfl) Z.g__law_times (d_cons (d_vr (pv 3)) (d_cons (c_call tkF (D__law_less Z) hr (by omega) (by rfl) Z.g__law_less (d_cons (c_call tkF (D__law_power Z) hr (by omega) (by rfl) Z.g__law_power (d_cons (c_call tkF (D__law_less Z) hr (by omega) (by rfl) Z.g__law_less (d_cons (d_vr (pv 2)) d_nil)) (d_cons (d_vr (pv 7)) d_nil))) d_nil)) d_nil)))))))
  (s_one (s_ret (d_vr (pv 3)))))))
theorem N_wrong_in : FnScope ["value", "least", "most", "is_right", "each", "index"] ["value", "least", "most", "is_right"] (defScope (top 9)) := ⟨rfl, rfl, rfl, by decide +kernel, rfl, by decide +kernel, by decide +kernel⟩
def B_wrong_in : Sv := (sSeq (sIf (tOr (tNot (tT (e1 (isiS .tup) (pk 0)))) (tB (e2 ltS (eN lenC (eCons (pk 0) eNil)) (pk 1)))) (sRet (eLst (eCons (kc .non) eNil))) sNil)
  (sSeq (sFor (.tp [(.nm 5), (.nm 4)]) (iEnum (vr 0)) (sIf (tOr (tB (e2 eqS (pk 5) (pk 2))) (tNot (tT (eClo 3 [] (eCons (eCut (pk 0) oNone (oSome (pk 5))) (eCons (vr 4) eNil)))))) (sRet (eLst (eCons (vr 5) eNil))) sNil))
  (sRet (eLst eNil))))
abbrev M_wrong_in : List Slot → Sto → Res D := fnM 2 B_wrong_in
abbrev sh_wrong_in : List Shp := []
theorem D_wrong_in (Z : Fx K mg base T) : DFn P w K mg base (G P w K mg base T) 6 (He.ga K "wrong_in") 4 sh_wrong_in M_wrong_in := by
  obtain ⟨fd, F⟩ := Z.f_wrong_in
  exact dfn_of F N_wrong_in rfl rfl (fun kV doc pm an cdv ct us hl => match us, hl with | [_, _, _, _], _ => rfl) (by intro t ht kV doc pm an cdv ct us ws h1 h2; cases ht) (fun A outer s H E W hr => (s_cons (s_if (PW.pt (d_or (d_tnot (d_tT rfl (toP (d_isi (T := .tup) (by decide) rfl (by rfl) Z.n_isinstance (by rfl) Z.n_tuple b_tuple (d_pk (pv 0)))))) (d_or1 (d_tcmp (o_lt rfl (room_un hr)) (toP (d_callB monoR (c_len rfl) (by rfl) Z.n_len b_len (q_cons (d_pk (pv 0)) q_nil))) (d_pk (pv 1)) (nomark _))))) (s_one (s_ret (FtoR (d_lst (d_cons d_non d_nil))))) s_nil)
  (s_cons (s_for owF rfl (i_enum rfl (by rfl) Z.n_enumerate (d_vr (pv 0))) (g_tp rfl rfl (gs_cons (g_nm (i := 5) N_wrong_in.nd (by rfl) (by first | exact Or.inl rfl | exact Or.inr rfl)) (gs_cons (g_nm (i := 4) N_wrong_in.nd (by rfl) (by first | exact Or.inl rfl | exact Or.inr rfl)) gs_nil)) (by rfl)) (s_one (s_if (PW.pt (d_or (d_tcmp (o_eq rfl (room_un hr)) (d_pk (pv 5)) (d_pk (pv 2)) (nomark _)) (d_or1 (d_tnot (d_tT rfl (toP (c_clo (k := 0) tkF rfl rfl rfl rfl rfl TblOk.nil hr (by omega) (by show KK ≤ _; unfold KK; omega) rfl (by first | exact Or.inl rfl | exact Or.inr (Or.inl rfl) | exact Or.inr (Or.inr rfl)) (d_cons (d_cut rfl (d_pk (pv 0)) o_none (o_some (d_pk (pv 5)))) (d_cons (d_vr (pv 4)) d_nil))))))))) (s_one (s_ret (FtoR (d_lst (d_cons (d_vr (pv 5)) d_nil))))) s_nil)))
  (s_one (s_ret (FtoR (d_lst d_nil)))))))
theorem N_is_small : FnScope ["value", "sign"] ["value"] (defScope (top 6)) := ⟨rfl, rfl, rfl, by decide +kernel, rfl, by decide +kernel, by decide +kernel⟩
def B_is_small : Sv := (sRet (eAnd (e1 (isiS .str) (pk 0)) (eAnd (e2 neS (pk 0) (kc (.str []))) (eN (ofBls fun bs => .bl (bs.all id)) (eCons (eLc (.nm 1) (iStr (pk 0)) tYes (e2 inS (pk 1) (kc (.str [97, 98, 99, 100, 101, 102, 103, 104, 105, 106, 107, 108, 109, 110, 111, 112, 113, 114, 115, 116, 117, 118, 119, 120, 121, 122]))) [1]) eNil)))))
abbrev M_is_small : List Slot → Sto → Res D := fnM 1 B_is_small
abbrev sh_is_small : List Shp := []
theorem D_is_small (Z : Fx K mg base T) : DFn P w K mg base (G P w K mg base T) 1 (He.ga K "is_small") 1 sh_is_small M_is_small := by
  obtain ⟨fd, F⟩ := Z.f_is_small
  exact dfn_of F N_is_small rfl rfl (fun kV doc pm an cdv ct us hl => match us, hl with | [_], _ => rfl) (by intro t ht kV doc pm an cdv ct us ws h1 h2; cases ht) (fun A outer s H E W hr => (s_one (s_ret (d_andV monoR blR (toP (d_isi (T := .str) (by decide) rfl (by rfl) Z.n_isinstance (by rfl) Z.n_str b_str (d_pk (pv 0)))) (d_andV monoR blR (toP (d_cmp monoR (o_ne rfl (room_un hr)) (d_pk (pv 0)) (toP (d_str (by rfl) (by rfl))) (nomark _))) (d_one (d_callB monoR (c_all rfl rfl) (by rfl) Z.n_all b_all (q_cons (FtoP (d_lc rfl N_is_small.nd (i_str (d_pk (pv 0))) (blkOk_by (own := [("sign", 1)]) (by kernel_rfl)) (by decide) (fun _ _ _ _ _ => (g_nm (i := 1) N_is_small.nd (by rfl) (by first | exact Or.inl rfl | exact Or.inr rfl))) (fun _ _ _ _ _ => d_ifs0) (fun _ _ _ _ _ => (d_cmp monoR (o_in rfl (room_un65 hr)) (d_pk (pv 1)) (toP (d_gstr (by rfl) Z.s_LETTERS (by rfl) (by rfl))) (by rfl))))) q_nil))))))))
theorem N_is_name : FnScope ["value"] ["value"] (defScope (top 29)) := ⟨rfl, rfl, rfl, by decide +kernel, rfl, by decide +kernel, by decide +kernel⟩
def B_is_name : Sv := (sRet (eAnd (eCall M_is_small (eCons (vr 0) eNil)) (eAnd (e2 leS (eN lenC (eCons (pk 0) eNil)) (kc (.int 6))) (e2 notInS (pk 0) (kc (.tup [.str [112, 111, 115, 116], .str [119, 97, 121], .str [98, 105, 114, 100]]))))))
abbrev M_is_name : List Slot → Sto → Res D := fnM 0 B_is_name
abbrev sh_is_name : List Shp := []
theorem D_is_name (Z : Fx K mg base T) : DFn P w K mg base (G P w K mg base T) 2 (He.ga K "is_name") 1 sh_is_name M_is_name := by
  obtain ⟨fd, F⟩ := Z.f_is_name
  exact dfn_of F N_is_name rfl rfl (fun kV doc pm an cdv ct us hl => match us, hl with | [_], _ => rfl) (by intro t ht kV doc pm an cdv ct us ws h1 h2; cases ht) (fun A outer s H E W hr => (s_one (s_ret (d_andV monoR blR (toP (c_call tkF (D_is_small Z) hr (by omega) (by rfl) Z.g_is_small (d_cons (d_vr (pv 0)) d_nil))) (d_andV monoR blR (toP (d_cmp monoR (o_le rfl (room_un hr)) (toP (d_callB monoR (c_len rfl) (by rfl) Z.n_len b_len (q_cons (d_pk (pv 0)) q_nil))) (toP (d_gint (by rfl) Z.i_MOST_SIGNS)) (nomark _))) (d_one (d_cmp monoR (o_notIn rfl (room_un65 hr)) (d_pk (pv 0)) (toP (d_gtup (ys := [[112, 111, 115, 116], [119, 97, 121], [98, 105, 114, 100]]) rfl (by rfl) Z.t_KINDS rfl rfl)) (by rfl))))))))
theorem N_is_bearer : FnScope ["many", "ahead", "value"] ["many", "ahead", "value"] (defScope (top 33)) := ⟨rfl, rfl, rfl, by decide +kernel, rfl, by decide +kernel, by decide +kernel⟩
def B_is_bearer : Sv := (sSeq (sIf (tOr (tNot (tT (eCall M_is_pair (eCons (vr 2) eNil)))) (tOr (tNot (tT (eCall M_is_name (eCons (e2 ixS (pk 2) (kc (.int 0))) eNil)))) (tNot (tT (eCall M_is_up_to (eCons (e2 ixS (pk 2) (kc (.int 1))) (eCons (e2 subS (pk 0) (kc (.int 1))) eNil))))))) (sRet (kc (.bl false))) sNil)
  (sRet (eOr (e2 eqS (pk 1) (eTup eNil)) (e2 ltS (e2 ixS (e2 ixS (pk 1) (e1 negS (kc (.int 1)))) (kc (.int 0))) (e2 ixS (pk 2) (kc (.int 0)))))))
abbrev M_is_bearer : List Slot → Sto → Res D := fnM 0 B_is_bearer
abbrev sh_is_bearer : List Shp := []
theorem D_is_bearer (Z : Fx K mg base T) : DFn P w K mg base (G P w K mg base T) 4 (He.ga K "is_bearer") 3 sh_is_bearer M_is_bearer := by
  obtain ⟨fd, F⟩ := Z.f_is_bearer
  exact dfn_of F N_is_bearer rfl rfl (fun kV doc pm an cdv ct us hl => match us, hl with | [_, _, _], _ => rfl) (by intro t ht kV doc pm an cdv ct us ws h1 h2; cases ht) (fun A outer s H E W hr => (s_cons (s_if (PW.pt (d_or (d_tnot (d_tT rfl (toP (c_call tkF (D_is_pair Z) hr (by omega) (by rfl) Z.g_is_pair (d_cons (d_vr (pv 2)) d_nil))))) (d_or (d_tnot (d_tT rfl (toP (c_call tkF (D_is_name Z) hr (by omega) (by rfl) Z.g_is_name (d_cons (d_ix rfl (room_un1 hr) (d_pk (pv 2)) (toP d_int)) d_nil))))) (d_or1 (d_tnot (d_tT rfl (toP (c_call tkF (D_is_up_to Z) hr (by omega) (by rfl) Z.g_is_up_to (d_cons (d_ix rfl (room_un1 hr) (d_pk (pv 2)) (toP d_int)) (d_cons (d_op monoR o_sub (d_pk (pv 0)) (toP d_int)) d_nil)))))))))) (s_one (s_ret d_bl)) s_nil)
  (s_one (s_ret (d_orV monoR blR (toP (d_cmp monoR (o_eq rfl (room_un hr)) (d_pk (pv 1)) (toP (d_tup d_nil)) (nomark _))) (d_one (d_cmp monoR (o_lt rfl (room_un hr)) (toP (d_ix rfl (room_un1 hr) (toP (d_ix rfl (room_un1 hr) (d_pk (pv 1)) (toP (d_neg (toP d_int))))) (toP d_int))) (toP (d_ix rfl (room_un1 hr) (d_pk (pv 2)) (toP d_int))) (nomark _))))))))
def L_wrong_in_plan_0 : Ev := (eCall M_is_bearer (eCons (vr 2) (eCons (vr 0) (eCons (vr 1) eNil))))
theorem N_wrong_in_plan : FnScope ["many", "value"] ["many", "value"] (defScope (top 34)) := ⟨rfl, rfl, rfl, by decide +kernel, rfl, by decide +kernel, by decide +kernel⟩
def B_wrong_in_plan : Sv := (sRet (eCallA M_wrong_in (kCons (vr 1) (kCons (kc (.int 0)) (kCons (kc .non) (kLam (lamG 2 [0] 0 L_wrong_in_plan_0) kNil))))))
abbrev M_wrong_in_plan : List Slot → Sto → Res D := fnM 0 B_wrong_in_plan
abbrev sh_wrong_in_plan : List Shp := []
theorem D_wrong_in_plan (Z : Fx K mg base T) : DFn P w K mg base (G P w K mg base T) 7 (He.ga K "wrong_in_plan") 2 sh_wrong_in_plan M_wrong_in_plan := by
  obtain ⟨fd, F⟩ := Z.f_wrong_in_plan
  exact dfn_of F N_wrong_in_plan rfl rfl (fun kV doc pm an cdv ct us hl => match us, hl with | [_, _], _ => rfl) (by intro t ht kV doc pm an cdv ct us ws h1 h2; cases ht) (fun A outer s H E W hr => (s_one (s_ret (c_callP (cs := ["many"]) tkF (D_wrong_in Z) hr (by omega) (by rfl) Z.g_wrong_in (by intro y hy; simp only [List.mem_cons, List.not_mem_nil, or_false] at hy; rcases hy with rfl <;> rfl) (by intro y hy; simp only [List.mem_cons, List.not_mem_nil, or_false] at hy; rcases hy with rfl <;> rfl) (k_cons (d_vr (pv 1)) (k_cons d_int (k_cons d_non (k_lam (ps := ["ahead", "each"]) (fr := ["many"]) (N := ["ahead", "each", "many"]) (js := [0]) (m := 0) (k := 4) (eb := L_wrong_in_plan_0) Z.tb_wrong_in_plan (codeR (p := ("wrong_in_plan", none)) F) Z.tm_wrong_in_plan rfl Z.tu_wrong_in_plan rfl (fun y hy e => Or.inl (show (defScope (top 34)).names.lookup y.1 = some .cell by revert e hy y; decide +kernel)) (nscope_by (by kernel_rfl)) rfl (fun cl pm ctv c2 us hl => match us, hl with | [_, _], _ => rfl) rfl (by intro y hy; simpa using hy) rfl (fun cl c2 f A outer s H E hr => (c_call tkL (D_is_bearer Z) hr (by omega) (by rfl) Z.g_is_bearer (d_cons (d_vr (pv 2)) (d_cons (d_vr (pv 0)) (d_cons (d_vr (pv 1)) d_nil))))) k_nil))))))))
theorem N_check_plan : FnScope ["many", "plan", "index"] ["many", "plan"] (defScope (top 52)) := ⟨rfl, rfl, rfl, by decide +kernel, rfl, by decide +kernel, by decide +kernel⟩
def B_check_plan : Sv := (sSeq (sExpr (eCall M_check_many (eCons (vr 0) eNil)))
  (sFor (.nm 2) (iSeq (eCall M_wrong_in_plan (eCons (vr 0) (eCons (vr 1) eNil)))) sBad))
abbrev M_check_plan : List Slot → Sto → Res D := fnM 1 B_check_plan
abbrev sh_check_plan : List Shp := []
theorem D_check_plan (Z : Fx K mg base T) : DFn P w K mg base (G P w K mg base T) 8 (He.ga K "check_plan") 2 sh_check_plan M_check_plan := by
  obtain ⟨fd, F⟩ := Z.f_check_plan
  exact dfn_of F N_check_plan rfl rfl (fun kV doc pm an cdv ct us hl => match us, hl with | [_, _], _ => rfl) (by intro t ht kV doc pm an cdv ct us ws h1 h2; cases ht) (fun A outer s H E W hr => (s_cons (s_expr (c_call tkF (D_check_many Z) hr (by omega) (by rfl) Z.g_check_many (d_cons (d_vr (pv 0)) d_nil)))
  (s_one (s_for owF rfl (i_seq rfl (c_call tkF (D_wrong_in_plan Z) hr (by omega) (by rfl) Z.g_wrong_in_plan (d_cons (d_vr (pv 0)) (d_cons (d_vr (pv 1)) d_nil)))) (g_nm (i := 2) N_check_plan.nd (by rfl) (by first | exact Or.inl rfl | exact Or.inr rfl)) (s_one s_bad)))))
theorem N_bearers_of : FnScope ["many", "plan", "_", "part", "parts"] ["many", "plan"] (defScope (top 36)) := ⟨rfl, rfl, rfl, by decide +kernel, rfl, by decide +kernel, by decide +kernel⟩
def B_bearers_of : Sv := (sSeq (sSet 4 (eLc (.tp [(.nm 2), (.nm 3)]) (iSeq (vr 1)) tYes (vr 3) [2, 3]))
  (sRet (eLc (.nm 3) (iRange (eCons (vr 0) eNil)) tYes (eM .lst countM (pk 4) (eCons (pk 3) eNil)) [3])))
abbrev M_bearers_of : List Slot → Sto → Res D := fnM 3 B_bearers_of
abbrev sh_bearers_of : List Shp := []
theorem D_bearers_of (Z : Fx K mg base T) : DFn P w K mg base (G P w K mg base T) 1 (He.ga K "bearers_of") 2 sh_bearers_of M_bearers_of := by
  obtain ⟨fd, F⟩ := Z.f_bearers_of
  exact dfn_of F N_bearers_of rfl rfl (fun kV doc pm an cdv ct us hl => match us, hl with | [_, _], _ => rfl) (by intro t ht kV doc pm an cdv ct us ws h1 h2; cases ht) (fun A outer s H E W hr => (s_cons (s_set (i := 4) N_bearers_of.nd rfl (by first | exact Or.inl rfl | exact Or.inr rfl) (FtoR (d_lc rfl N_bearers_of.nd (i_seq rfl (d_vr (pv 1))) (blkOk_by (own := [("_", 2), ("part", 3)]) (by kernel_rfl)) (by decide) (fun _ _ _ _ _ => (g_tp rfl rfl (gs_cons (g_nm (i := 2) N_bearers_of.nd (by rfl) (by first | exact Or.inl rfl | exact Or.inr rfl)) (gs_cons (g_nm (i := 3) N_bearers_of.nd (by rfl) (by first | exact Or.inl rfl | exact Or.inr rfl)) gs_nil)) (by rfl))) (fun _ _ _ _ _ => d_ifs0) (fun _ _ _ _ _ => (d_vr (pv 3))))))
  (s_one (s_ret (FtoR (d_lc rfl N_bearers_of.nd (i_range1 (by rfl) Z.n_range (d_cons (d_vr (pv 0)) d_nil)) (blkOk_by (own := [("part", 3)]) (by kernel_rfl)) (by decide) (fun _ _ _ _ _ => (g_nm (i := 3) N_bearers_of.nd (by rfl) (by first | exact Or.inl rfl | exact Or.inr rfl))) (fun _ _ _ _ _ => d_ifs0) (fun _ _ _ _ _ => (d_m (k := .lst) rfl monoR PySem.F.plainAttrs_list PySem.F.slot_list_count PySem.F.type_list_count (m_count rfl) (d_pk (pv 4)) (q_cons (d_pk (pv 3)) q_nil)))))))))
theorem N_times : FnScope ["fraction", "other"] ["fraction", "other"] (defScope (top 40)) := ⟨rfl, rfl, rfl, by decide +kernel, rfl, by decide +kernel, by decide +kernel⟩
def B_times : Sv := (sRet (eCall M_lowest (eCons (e2 mulS (e2 ixS (pk 0) (kc (.int 0))) (e2 ixS (pk 1) (kc (.int 0)))) (eCons (e2 mulS (e2 ixS (pk 0) (kc (.int 1))) (e2 ixS (pk 1) (kc (.int 1)))) eNil))))
abbrev M_times : List Slot → Sto → Res D := fnM 0 B_times
abbrev sh_times : List Shp := []
theorem D_times (Z : Fx K mg base T) : DFn P w K mg base (G P w K mg base T) 2 (He.ga K "times") 2 sh_times M_times := by
  obtain ⟨fd, F⟩ := Z.f_times
  exact dfn_of F N_times rfl rfl (fun kV doc pm an cdv ct us hl => match us, hl with | [_, _], _ => rfl) (by intro t ht kV doc pm an cdv ct us ws h1 h2; cases ht) (fun A outer s H E W hr => (s_one (s_ret (c_call tkF (D_lowest Z) hr (by omega) (by rfl) Z.g_lowest (d_cons (d_op monoR (o_mul rfl) (toP (d_ix rfl (room_un1 hr) (d_pk (pv 0)) (toP d_int))) (toP (d_ix rfl (room_un1 hr) (d_pk (pv 1)) (toP d_int)))) (d_cons (d_op monoR (o_mul rfl) (toP (d_ix rfl (room_un1 hr) (d_pk (pv 0)) (toP d_int))) (toP (d_ix rfl (room_un1 hr) (d_pk (pv 1)) (toP d_int)))) d_nil))))))
theorem N_plan_by : FnScope ["many", "plan", "comes", "total", "number"] ["many", "plan", "comes"] (defScope (top 47)) := ⟨rfl, rfl, rfl, by decide +kernel, rfl, by decide +kernel, by decide +kernel⟩
def B_plan_by : Sv := (sSeq (sSet 3 (eTup (eCons (kc (.int 1)) (eCons (kc (.int 1)) eNil))))
  (sSeq (sFor (.nm 4) (iSeq (eCall M_bearers_of (eCons (vr 0) (eCons (vr 1) eNil)))) (sSet 3 (eCall M_times (eCons (vr 3) (eCons (eCall M_less_from_one (eCons (eCall M_to_power (eCons (eCall M_less_from_one (eCons (vr 2) eNil)) (eCons (vr 4) eNil))) eNil)) eNil)))))
  (sRet (vr 3))))
abbrev M_plan_by : List Slot → Sto → Res D := fnM 2 B_plan_by
abbrev sh_plan_by : List Shp := []
theorem D_plan_by (Z : Fx K mg base T) : DFn P w K mg base (G P w K mg base T) 3 (He.ga K "plan_by") 3 sh_plan_by M_plan_by := by
  obtain ⟨fd, F⟩ := Z.f_plan_by
  exact dfn_of F N_plan_by rfl rfl (fun kV doc pm an cdv ct us hl => match us, hl with | [_, _, _], _ => rfl) (by intro t ht kV doc pm an cdv ct us ws h1 h2; cases ht) (fun A outer s H E W hr => (s_cons (s_set (i := 3) N_plan_by.nd rfl (by first | exact Or.inl rfl | exact Or.inr rfl) (d_tup (d_cons d_int (d_cons d_int d_nil))))
  (s_cons (s_for owF rfl (i_seq rfl (c_call tkF (D_bearers_of Z) hr (by omega) (by rfl) Z.g_bearers_of (d_cons (d_vr (pv 0)) (d_cons (d_vr (pv 1)) d_nil)))) (g_nm (i := 4) N_plan_by.nd (by rfl) (by first | exact Or.inl rfl | exact Or.inr rfl)) (s_one (s_set (i := 3) N_plan_by.nd rfl (by first | exact Or.inl rfl | exact Or.inr rfl) (c_call tkF (D_times Z) hr (by omega) (by rfl) Z.g_times (d_cons (d_vr (pv 3)) (d_cons (c_call tkF (D_less_from_one Z) hr (by omega) (by rfl) Z.g_less_from_one (d_cons (c_call tkF (D_to_power Z) hr (by omega) (by rfl) Z.g_to_power (d_cons (c_call tkF (D_less_from_one Z) hr (by omega) (by rfl) Z.g_less_from_one (d_cons (d_vr (pv 2)) d_nil)) (d_cons (d_vr (pv 4)) d_nil))) d_nil)) d_nil))))))
  (s_one (s_ret (d_vr (pv 3)))))))
theorem N_plan_chance : FnScope ["many", "plan", "comes"] ["many", "plan", "comes"] (defScope (top 60)) := ⟨rfl, rfl, rfl, by decide +kernel, rfl, by decide +kernel, by decide +kernel⟩
def B_plan_chance : Sv := (sSeq (sExpr (eCall M_check_plan (eCons (vr 0) (eCons (vr 1) eNil))))
  (sSeq (sExpr (eCall M_check_comes (eCons (vr 2) eNil)))
  (sRet (eCall M_plan_by (eCons (vr 0) (eCons (vr 1) (eCons (vr 2) eNil)))))))
abbrev M_plan_chance : List Slot → Sto → Res D := fnM 0 B_plan_chance
abbrev sh_plan_chance : List Shp := [(0, ["comes", "plan", "many"], [2, 1, 0])]
theorem D_plan_chance (Z : Fx K mg base T) : DFn P w K mg base (G P w K mg base T) 9 (He.ga K "plan_chance") 3 sh_plan_chance M_plan_chance := by
  obtain ⟨fd, F⟩ := Z.f_plan_chance
  exact dfn_of F N_plan_chance rfl rfl (fun kV doc pm an cdv ct us hl => match us, hl with | [_, _, _], _ => rfl) (by intro t ht kV doc pm an cdv ct us ws h1 h2; cases ht with | head => exact (match us, ws, h1, h2 with | [], [_, _, _], _, _ => rfl) | tail _ ht => cases ht) (fun A outer s H E W hr => (s_cons (s_expr (c_call tkF (D_check_plan Z) hr (by omega) (by rfl) Z.g_check_plan (d_cons (d_vr (pv 0)) (d_cons (d_vr (pv 1)) d_nil))))
  (s_cons (s_expr (c_call tkF (D_check_comes Z) hr (by omega) (by rfl) Z.g_check_comes (d_cons (d_vr (pv 2)) d_nil)))
  (s_one (s_ret (c_call tkF (D_plan_by Z) hr (by omega) (by rfl) Z.g_plan_by (d_cons (d_vr (pv 0)) (d_cons (d_vr (pv 1)) (d_cons (d_vr (pv 2)) d_nil)))))))))
theorem N_are_below : FnScope ["ahead", "value"] ["ahead", "value"] (defScope (top 10)) := ⟨rfl, rfl, rfl, by decide +kernel, rfl, by decide +kernel, by decide +kernel⟩
def B_are_below : Sv := (sRet (eOr (e2 eqS (pk 0) (eTup eNil)) (e2 ltS (e2 ixS (pk 0) (e1 negS (kc (.int 1)))) (pk 1))))
abbrev M_are_below : List Slot → Sto → Res D := fnM 0 B_are_below
abbrev sh_are_below : List Shp := []
theorem D_are_below (Z : Fx K mg base T) : DFn P w K mg base (G P w K mg base T) 1 (He.ga K "are_below") 2 sh_are_below M_are_below := by
  obtain ⟨fd, F⟩ := Z.f_are_below
  exact dfn_of F N_are_below rfl rfl (fun kV doc pm an cdv ct us hl => match us, hl with | [_, _], _ => rfl) (by intro t ht kV doc pm an cdv ct us ws h1 h2; cases ht) (fun A outer s H E W hr => (s_one (s_ret (d_orV monoR blR (toP (d_cmp monoR (o_eq rfl (room_un hr)) (d_pk (pv 0)) (toP (d_tup d_nil)) (nomark _))) (d_one (d_cmp monoR (o_lt rfl (room_un hr)) (toP (d_ix rfl (room_un1 hr) (d_pk (pv 0)) (toP (d_neg (toP d_int))))) (d_pk (pv 1)) (nomark _)))))))
def L_wrong_in_flock_0 : Ev := (eAnd (eCall M_is_name (eCons (vr 1) eNil)) (eCall M_are_below (eCons (vr 0) (eCons (vr 1) eNil))))
theorem N_wrong_in_flock : FnScope ["value"] ["value"] (defScope (top 35)) := ⟨rfl, rfl, rfl, by decide +kernel, rfl, by decide +kernel, by decide +kernel⟩
def B_wrong_in_flock : Sv := (sRet (eCallA M_wrong_in (kCons (vr 0) (kCons (kc (.int 0)) (kCons (kc .non) (kLam (lamG 2 [] 0 L_wrong_in_flock_0) kNil))))))
abbrev M_wrong_in_flock : List Slot → Sto → Res D := fnM 0 B_wrong_in_flock
abbrev sh_wrong_in_flock : List Shp := []
theorem D_wrong_in_flock (Z : Fx K mg base T) : DFn P w K mg base (G P w K mg base T) 7 (He.ga K "wrong_in_flock") 1 sh_wrong_in_flock M_wrong_in_flock := by
  obtain ⟨fd, F⟩ := Z.f_wrong_in_flock
  exact dfn_of F N_wrong_in_flock rfl rfl (fun kV doc pm an cdv ct us hl => match us, hl with | [_], _ => rfl) (by intro t ht kV doc pm an cdv ct us ws h1 h2; cases ht) (fun A outer s H E W hr => (s_one (s_ret (c_callP (cs := []) tkF (D_wrong_in Z) hr (by omega) (by rfl) Z.g_wrong_in (by intro y hy; cases hy) (by intro y hy; cases hy) (k_cons (d_vr (pv 0)) (k_cons d_int (k_cons d_non (k_lam (ps := ["ahead", "each"]) (fr := []) (N := ["ahead", "each"]) (js := []) (m := 0) (k := 4) (eb := L_wrong_in_flock_0) Z.tb_wrong_in_flock (codeR (p := ("wrong_in_flock", none)) F) Z.tm_wrong_in_flock rfl Z.tu_wrong_in_flock rfl (by (exact fun y hy e => absurd e (by revert y; decide +kernel))) (nscope_by (by kernel_rfl)) rfl (fun cl pm ctv c2 us hl => match us, hl with | [_, _], _ => rfl) rfl (by intro y hy; cases hy) rfl (fun cl c2 f A outer s H E hr => (d_andV monoR blR (toP (c_call tkL (D_is_name Z) hr (by omega) (by rfl) Z.g_is_name (d_cons (d_vr (pv 1)) d_nil))) (d_one (c_call tkL (D_are_below Z) hr (by omega) (by rfl) Z.g_are_below (d_cons (d_vr (pv 0)) (d_cons (d_vr (pv 1)) d_nil)))))) k_nil))))))))
theorem N_check_flock : FnScope ["birds", "index"] ["birds"] (defScope (top 53)) := ⟨rfl, rfl, rfl, by decide +kernel, rfl, by decide +kernel, by decide +kernel⟩
def B_check_flock : Sv := (sFor (.nm 1) (iSeq (eCall M_wrong_in_flock (eCons (vr 0) eNil))) sBad)
abbrev M_check_flock : List Slot → Sto → Res D := fnM 1 B_check_flock
abbrev sh_check_flock : List Shp := []
theorem D_check_flock (Z : Fx K mg base T) : DFn P w K mg base (G P w K mg base T) 8 (He.ga K "check_flock") 1 sh_check_flock M_check_flock := by
  obtain ⟨fd, F⟩ := Z.f_check_flock
  exact dfn_of F N_check_flock rfl rfl (fun kV doc pm an cdv ct us hl => match us, hl with | [_], _ => rfl) (by intro t ht kV doc pm an cdv ct us ws h1 h2; cases ht) (fun A outer s H E W hr => (s_one (s_for owF rfl (i_seq rfl (c_call tkF (D_wrong_in_flock Z) hr (by omega) (by rfl) Z.g_wrong_in_flock (d_cons (d_vr (pv 0)) d_nil))) (g_nm (i := 1) N_check_flock.nd (by rfl) (by first | exact Or.inl rfl | exact Or.inr rfl)) (s_one s_bad))))
theorem N_even_by : FnScope ["many", "birds", "at", "bird"] ["many", "birds"] (defScope (top 37)) := ⟨rfl, rfl, rfl, by decide +kernel, rfl, by decide +kernel, by decide +kernel⟩
def B_even_by : Sv := (sSeq (sIf (tB (e2 ltS (eN lenC (eCons (pk 1) eNil)) (pk 0))) (sRet (eLst eNil)) sNil)
  (sRet (eLst (eCons (eN tupleC (eCons (eLc (.tp [(.nm 2), (.nm 3)]) (iEnum (vr 1)) tYes (eTup (eCons (vr 3) (eCons (e2 modS (pk 2) (pk 0)) eNil))) [2, 3]) eNil)) eNil))))
abbrev M_even_by : List Slot → Sto → Res D := fnM 2 B_even_by
abbrev sh_even_by : List Shp := []
theorem D_even_by (Z : Fx K mg base T) : DFn P w K mg base (G P w K mg base T) 1 (He.ga K "even_by") 2 sh_even_by M_even_by := by
  obtain ⟨fd, F⟩ := Z.f_even_by
  exact dfn_of F N_even_by rfl rfl (fun kV doc pm an cdv ct us hl => match us, hl with | [_, _], _ => rfl) (by intro t ht kV doc pm an cdv ct us ws h1 h2; cases ht) (fun A outer s H E W hr => (s_cons (s_if (d_tcmp (o_lt rfl (room_un hr)) (toP (d_callB monoR (c_len rfl) (by rfl) Z.n_len b_len (q_cons (d_pk (pv 1)) q_nil))) (d_pk (pv 0)) (nomark _)) (s_one (s_ret (FtoR (d_lst d_nil)))) s_nil)
  (s_one (s_ret (FtoR (d_lst (d_cons (d_callTy monoR (c_tuple rfl) (by rfl) Z.n_tuple b_tuple (q_cons (FtoP (d_lc rfl N_even_by.nd (i_enum rfl (by rfl) Z.n_enumerate (d_vr (pv 1))) (blkOk_by (own := [("at", 2), ("bird", 3)]) (by kernel_rfl)) (by decide) (fun _ _ _ _ _ => (g_tp rfl rfl (gs_cons (g_nm (i := 2) N_even_by.nd (by rfl) (by first | exact Or.inl rfl | exact Or.inr rfl)) (gs_cons (g_nm (i := 3) N_even_by.nd (by rfl) (by first | exact Or.inl rfl | exact Or.inr rfl)) gs_nil)) (by rfl))) (fun _ _ _ _ _ => d_ifs0) (fun _ _ _ _ _ => (d_tup (d_cons (d_vr (pv 3)) (d_cons (d_op monoR o_mod (d_pk (pv 2)) (d_pk (pv 0))) d_nil)))))) q_nil)) d_nil)))))))
theorem N_even_plan : FnScope ["many", "birds", "found"] ["many", "birds"] (defScope (top 54)) := ⟨rfl, rfl, rfl, by decide +kernel, rfl, by decide +kernel, by decide +kernel⟩
def B_even_plan : Sv := (sSeq (sExpr (eCall M_check_many (eCons (vr 0) eNil)))
  (sSeq (sExpr (eCall M_check_flock (eCons (vr 1) eNil)))
  (sSeq (sSet 2 (eCall M_even_by (eCons (vr 0) (eCons (vr 1) eNil))))
  (sRet (eIf (tB (e2 neS (pk 2) (eLst eNil))) (e2 ixS (pk 2) (kc (.int 0))) (kc .non))))))
abbrev M_even_plan : List Slot → Sto → Res D := fnM 1 B_even_plan
abbrev sh_even_plan : List Shp := []
theorem D_even_plan (Z : Fx K mg base T) : DFn P w K mg base (G P w K mg base T) 9 (He.ga K "even_plan") 2 sh_even_plan M_even_plan := by
  obtain ⟨fd, F⟩ := Z.f_even_plan
  exact dfn_of F N_even_plan rfl rfl (fun kV doc pm an cdv ct us hl => match us, hl with | [_, _], _ => rfl) (by intro t ht kV doc pm an cdv ct us ws h1 h2; cases ht) (fun A outer s H E W hr => (s_cons (s_expr (c_call tkF (D_check_many Z) hr (by omega) (by rfl) Z.g_check_many (d_cons (d_vr (pv 0)) d_nil)))
  (s_cons (s_expr (c_call tkF (D_check_flock Z) hr (by omega) (by rfl) Z.g_check_flock (d_cons (d_vr (pv 1)) d_nil)))
  (s_cons (s_set (i := 2) N_even_plan.nd rfl (by first | exact Or.inl rfl | exact Or.inr rfl) (c_call tkF (D_even_by Z) hr (by omega) (by rfl) Z.g_even_by (d_cons (d_vr (pv 0)) (d_cons (d_vr (pv 1)) d_nil))))
  (s_one (s_ret (d_if monoR (d_tcmp (o_ne rfl (room_un hr)) (d_pk (pv 2)) (FtoP (d_lst d_nil)) (nomark _)) (d_ix rfl (room_un1 hr) (d_pk (pv 2)) (toP d_int)) d_non)))))))
theorem N__law_one_right : FnScope ["well", "lap", "many", "comes", "rounds", "due", "more", "plan", "part", "sign", "names", "twice"] ["well"] (defScope (top 79)) := ⟨rfl, rfl, rfl, by decide +kernel, rfl, by decide +kernel, by decide +kernel⟩
def B__law_one_right : Sv := (sSeq (sFor (.nm 1) (iRange (eCons (kc (.int 4)) eNil)) (sSeq (sPar3 2 3 4 (e2 addS (kc (.int 1)) (eCall M__law_draw (eCons (vr 0) (eCons (kc (.int 5)) eNil)))) (eCall M__law_comes (eCons (vr 0) eNil)) (eCall M__law_draw (eCons (vr 0) (eCons (kc (.int 7)) eNil))))
  (sSeq (sSet 5 (eCall M__law_within (eCons (vr 2) (eCons (vr 3) (eCons (vr 4) eNil)))))
  (sSeq (sIf (tNot (tT (eCall (M__law_same 8) (eCons (eTup (eCons (eCall M_told_within (eCons (vr 2) (eCons (vr 3) (eCons (vr 4) eNil)))) (eCons (eCallK M_told_within [2, 1, 0] eNil (eCons (vr 4) (eCons (vr 3) (eCons (vr 2) eNil)))) eNil))) (eCons (eTup (eCons (vr 5) (eCons (vr 5) eNil))) eNil))))) (sRet (kc (.bl false))) sNil)
  (sSeq (sSet 6 (eCall M_told_within (eCons (vr 2) (eCons (vr 3) (eCons (e2 addS (pk 4) (kc (.int 1))) eNil)))))
  (sSeq (sIf (tOr (tB (e2 ltS (e2 mulS (e2 ixS (pk 6) (kc (.int 0))) (e2 ixS (pk 5) (kc (.int 1)))) (e2 mulS (e2 ixS (pk 5) (kc (.int 0))) (e2 ixS (pk 6) (kc (.int 1)))))) (tB (e2 neS (eCall M_told_within (eCons (vr 2) (eCons (vr 3) (eCons (kc (.int 0)) eNil)))) (eTup (eCons (kc (.int 0)) (eCons (kc (.int 1)) eNil)))))) (sRet (kc (.bl false))) sNil)
  (sSeq (sSet 7 (eCall M__law_plan (eCons (vr 0) (eCons (vr 2) eNil))))
  (sSeq (sSet 5 (eCall M__law_plan_chance (eCons (vr 2) (eCons (vr 7) (eCons (vr 3) eNil)))))
  (sSeq (sIf (tNot (tT (eCall (M__law_same 8) (eCons (eTup (eCons (eCall M_plan_chance (eCons (vr 2) (eCons (vr 7) (eCons (vr 3) eNil)))) (eCons (eCallK M_plan_chance [2, 1, 0] eNil (eCons (vr 3) (eCons (vr 7) (eCons (vr 2) eNil)))) eNil))) (eCons (eTup (eCons (vr 5) (eCons (vr 5) eNil))) eNil))))) (sRet (kc (.bl false))) sNil)
  (sSeq (sFor (.nm 8) (iRange (eCons (vr 2) eNil)) (sSeq (sSet 6 (eCall M_plan_chance (eCons (vr 2) (eCons (e2 addS (pk 7) (eTup (eCons (eTup (eCons (kc (.str [122, 122])) (eCons (vr 8) eNil))) eNil))) (eCons (vr 3) eNil)))))
  (sIf (tB (e2 ltS (e2 mulS (e2 ixS (pk 6) (kc (.int 0))) (e2 ixS (pk 5) (kc (.int 1)))) (e2 mulS (e2 ixS (pk 5) (kc (.int 0))) (e2 ixS (pk 6) (kc (.int 1)))))) (sRet (kc (.bl false))) sNil)))
  (sSeq (sSet 10 (eN tupleC (eCons (eLc (.nm 9) (iStr (kc (.str [97, 98, 99, 100, 101, 102, 103, 104, 105, 106]))) tYes (e2 addS (kc (.str [98])) (pk 9)) [9]) eNil)))
  (sSeq (sIf (tNot (tT (eCall (M__law_same 8) (eCons (eTup (eCons (eCall M_plan_chance (eCons (vr 2) (eCons (eCall M_even_plan (eCons (vr 2) (eCons (eCut (pk 10) oNone (oSome (pk 2))) eNil))) (eCons (vr 3) eNil)))) (eCons (eCall M_told_within (eCons (vr 2) (eCons (vr 3) (eCons (kc (.int 1)) eNil)))) eNil))) (eCons (e2 mulS (eTup (eCons (eCall M__law_power (eCons (vr 3) (eCons (vr 2) eNil))) eNil)) (kc (.int 2))) eNil))))) (sRet (kc (.bl false))) sNil)
  (sSeq (sSet 11 (eCall M_even_plan (eCons (vr 2) (eCons (eCut (pk 10) oNone (oSome (e2 mulS (kc (.int 2)) (pk 2)))) eNil))))
  (sIf (tNot (tT (eCall (M__law_same 8) (eCons (eTup (eCons (eCall M_plan_chance (eCons (vr 2) (eCons (vr 11) (eCons (vr 3) eNil)))) (eCons (eCall M_told_within (eCons (vr 2) (eCons (vr 3) (eCons (kc (.int 2)) eNil)))) eNil))) (eCons (e2 mulS (eTup (eCons (eCall M__law_within (eCons (vr 2) (eCons (vr 3) (eCons (kc (.int 2)) eNil)))) eNil)) (kc (.int 2))) eNil))))) (sRet (kc (.bl false))) sNil))))))))))))))
  (sRet (eCall (M__law_same 8) (eCons (eTup (eCons (eCall M_told_within (eCons (kc (.int 2)) (eCons (eTup (eCons (kc (.int 1)) (eCons (kc (.int 2)) eNil))) (eCons (kc (.int 2)) eNil)))) (eCons (eCall M_plan_chance (eCons (kc (.int 2)) (eCons (eTup (eCons (eTup (eCons (kc (.str [97, 100, 97])) (eCons (kc (.int 0)) eNil))) eNil)) (eCons (eTup (eCons (kc (.int 1)) (eCons (kc (.int 2)) eNil))) eNil)))) eNil))) (eCons (eTup (eCons (eTup (eCons (kc (.int 9)) (eCons (kc (.int 16)) eNil))) (eCons (eTup (eCons (kc (.int 0)) (eCons (kc (.int 1)) eNil))) eNil))) eNil)))))
abbrev M__law_one_right : List Slot → Sto → Res D := fnM 11 B__law_one_right
abbrev sh__law_one_right : List Shp := []
theorem D__law_one_right (Z : Fx K mg base T) : DFn P w K mg base (G P w K mg base T) 10 (He.ga K "_law_one_right") 1 sh__law_one_right M__law_one_right := by
  obtain ⟨fd, F⟩ := Z.f__law_one_right
  exact dfn_of F N__law_one_right rfl rfl (fun kV doc pm an cdv ct us hl => match us, hl with | [_], _ => rfl) (by intro t ht kV doc pm an cdv ct us ws h1 h2; cases ht) (fun A outer s H E W hr => (s_cons (s_for owF rfl (i_range1 (by rfl) Z.n_range (d_cons d_int d_nil)) (g_nm (i := 1) N__law_one_right.nd (by rfl) (by first | exact Or.inl rfl | exact Or.inr rfl)) (s_cons (s_par3 rfl N__law_one_right.nd (i := 2) (j := 3) (l := 4) rfl rfl rfl (by decide) (by decide) (by decide) (by rfl) (by rfl) (by rfl) (d_op monoR (o_add rfl) (toP d_int) (toP (c_call tkF (D__law_draw Z) hr (by omega) (by rfl) Z.g__law_draw (d_cons (d_vr (pv 0)) (d_cons d_int d_nil))))) (c_call tkF (D__law_comes Z) hr (by omega) (by rfl) Z.g__law_comes (d_cons (d_vr (pv 0)) d_nil)) (c_call tkF (D__law_draw Z) hr (by omega) (by rfl) Z.g__law_draw (d_cons (d_vr (pv 0)) (d_cons d_int d_nil))) (by rfl))
  (s_cons (s_set (i := 5) N__law_one_right.nd rfl (by first | exact Or.inl rfl | exact Or.inr rfl) (c_call tkF (D__law_within Z) hr (by omega) (by rfl) Z.g__law_within (d_cons (d_vr (pv 2)) (d_cons (d_vr (pv 3)) (d_cons (d_vr (pv 4)) d_nil)))))
  (s_cons (s_if (d_tnot (d_tT rfl (toP (c_call tkF (D__law_same Z 8) hr (by omega) (by rfl) Z.g__law_same (d_cons (d_tup (d_cons (c_call tkF (D_told_within Z) hr (by omega) (by rfl) Z.g_told_within (d_cons (d_vr (pv 2)) (d_cons (d_vr (pv 3)) (d_cons (d_vr (pv 4)) d_nil)))) (d_cons (c_callK0 (ks := ["rounds", "comes", "many"]) (ord := [2, 1, 0]) tkF (D_told_within Z) (by simp [sh_told_within]) hr (by omega) (by rfl) Z.g_told_within rfl rfl (by rfl) (k_kw (d_vr (pv 4)) (k_kw (d_vr (pv 3)) (k_kw (d_vr (pv 2)) k_kw0)))) d_nil))) (d_cons (d_tup (d_cons (d_vr (pv 5)) (d_cons (d_vr (pv 5)) d_nil))) d_nil)))))) (s_one (s_ret d_bl)) s_nil)
  (s_cons (s_set (i := 6) N__law_one_right.nd rfl (by first | exact Or.inl rfl | exact Or.inr rfl) (c_call tkF (D_told_within Z) hr (by omega) (by rfl) Z.g_told_within (d_cons (d_vr (pv 2)) (d_cons (d_vr (pv 3)) (d_cons (d_op monoR (o_add rfl) (d_pk (pv 4)) (toP d_int)) d_nil)))))
  (s_cons (s_if (PW.pt (d_or (d_tcmp (o_lt rfl (room_un hr)) (toP (d_op monoR (o_mul rfl) (toP (d_ix rfl (room_un1 hr) (d_pk (pv 6)) (toP d_int))) (toP (d_ix rfl (room_un1 hr) (d_pk (pv 5)) (toP d_int))))) (toP (d_op monoR (o_mul rfl) (toP (d_ix rfl (room_un1 hr) (d_pk (pv 5)) (toP d_int))) (toP (d_ix rfl (room_un1 hr) (d_pk (pv 6)) (toP d_int))))) (nomark _)) (d_or1 (d_tcmp (o_ne rfl (room_un hr)) (toP (c_call tkF (D_told_within Z) hr (by omega) (by rfl) Z.g_told_within (d_cons (d_vr (pv 2)) (d_cons (d_vr (pv 3)) (d_cons d_int d_nil))))) (toP (d_tup (d_cons d_int (d_cons d_int d_nil)))) (nomark _))))) (s_one (s_ret d_bl)) s_nil)
  (s_cons (s_set (i := 7) N__law_one_right.nd rfl (by first | exact Or.inl rfl | exact Or.inr rfl) (c_call tkF (D__law_plan Z) hr (by omega) (by rfl) Z.g__law_plan (d_cons (d_vr (pv 0)) (d_cons (d_vr (pv 2)) d_nil))))
  (s_cons (s_set (i := 5) N__law_one_right.nd rfl (by first | exact Or.inl rfl | exact Or.inr rfl) (c_call tkF (D__law_plan_chance Z) hr (by omega) (by rfl) Z.g__law_plan_chance (d_cons (d_vr (pv 2)) (d_cons (d_vr (pv 7)) (d_cons (d_vr (pv 3)) d_nil)))))
  (s_cons (s_if (d_tnot (d_tT rfl (toP (c_call tkF (D__law_same Z 8) hr (by omega) (by rfl) Z.g__law_same (d_cons (d_tup (d_cons (c_call tkF (D_plan_chance Z) hr (by omega) (by rfl) Z.g_plan_chance (d_cons (d_vr (pv 2)) (d_cons (d_vr (pv 7)) (d_cons (d_vr (pv 3)) d_nil)))) (d_cons (c_callK0 (ks := ["comes", "plan", "many"]) (ord := [2, 1, 0]) tkF (D_plan_chance Z) (by simp [sh_plan_chance]) hr (by omega) (by rfl) Z.g_plan_chance rfl rfl (by rfl) (k_kw (d_vr (pv 3)) (k_kw (d_vr (pv 7)) (k_kw (d_vr (pv 2)) k_kw0)))) d_nil))) (d_cons (d_tup (d_cons (d_vr (pv 5)) (d_cons (d_vr (pv 5)) d_nil))) d_nil)))))) (s_one (s_ret d_bl)) s_nil)
  (s_cons (s_for owF rfl (i_range1 (by rfl) Z.n_range (d_cons (d_vr (pv 2)) d_nil)) (g_nm (i := 8) N__law_one_right.nd (by rfl) (by first | exact Or.inl rfl | exact Or.inr rfl)) (s_cons (s_set (i := 6) N__law_one_right.nd rfl (by first | exact Or.inl rfl | exact Or.inr rfl) (c_call tkF (D_plan_chance Z) hr (by omega) (by rfl) Z.g_plan_chance (d_cons (d_vr (pv 2)) (d_cons (d_op monoR (o_add rfl) (d_pk (pv 7)) (toP (d_tup (d_cons (d_tup (d_cons (d_str (by rfl) (by rfl)) (d_cons (d_vr (pv 8)) d_nil))) d_nil)))) (d_cons (d_vr (pv 3)) d_nil)))))
  (s_one (s_if (d_tcmp (o_lt rfl (room_un hr)) (toP (d_op monoR (o_mul rfl) (toP (d_ix rfl (room_un1 hr) (d_pk (pv 6)) (toP d_int))) (toP (d_ix rfl (room_un1 hr) (d_pk (pv 5)) (toP d_int))))) (toP (d_op monoR (o_mul rfl) (toP (d_ix rfl (room_un1 hr) (d_pk (pv 5)) (toP d_int))) (toP (d_ix rfl (room_un1 hr) (d_pk (pv 6)) (toP d_int))))) (nomark _)) (s_one (s_ret d_bl)) s_nil))))
  (s_cons (s_set (i := 10) N__law_one_right.nd rfl (by first | exact Or.inl rfl | exact Or.inr rfl) (d_callTy monoR (c_tuple rfl) (by rfl) Z.n_tuple b_tuple (q_cons (FtoP (d_lc rfl N__law_one_right.nd (i_str (toP (d_str (by rfl) (by rfl)))) (blkOk_by (own := [("sign", 9)]) (by kernel_rfl)) (by decide) (fun _ _ _ _ _ => (g_nm (i := 9) N__law_one_right.nd (by rfl) (by first | exact Or.inl rfl | exact Or.inr rfl))) (fun _ _ _ _ _ => d_ifs0) (fun _ _ _ _ _ => (d_op monoR (o_add rfl) (toP (d_str (by rfl) (by rfl))) (d_pk (pv 9)))))) q_nil)))
  (s_cons (s_if (d_tnot (d_tT rfl (toP (c_call tkF (D__law_same Z 8) hr (by omega) (by rfl) Z.g__law_same (d_cons (d_tup (d_cons (c_call tkF (D_plan_chance Z) hr (by omega) (by rfl) Z.g_plan_chance (d_cons (d_vr (pv 2)) (d_cons (c_call tkF (D_even_plan Z) hr (by omega) (by rfl) Z.g_even_plan (d_cons (d_vr (pv 2)) (d_cons (d_cut rfl (d_pk (pv 10)) o_none (o_some (d_pk (pv 2)))) d_nil))) (d_cons (d_vr (pv 3)) d_nil)))) (d_cons (c_call tkF (D_told_within Z) hr (by omega) (by rfl) Z.g_told_within (d_cons (d_vr (pv 2)) (d_cons (d_vr (pv 3)) (d_cons d_int d_nil)))) d_nil))) (d_cons (d_op monoR (o_mul rfl) (toP (d_tup (d_cons (c_call tkF (D__law_power Z) hr (by omega) (by rfl) Z.g__law_power (d_cons (d_vr (pv 3)) (d_cons (d_vr (pv 2)) d_nil))) d_nil))) (toP d_int)) d_nil)))))) (s_one (s_ret d_bl)) s_nil)
  (s_cons (s_set (i := 11) N__law_one_right.nd rfl (by first | exact Or.inl rfl | exact Or.inr rfl) (c_call tkF (D_even_plan Z) hr (by omega) (by rfl) Z.g_even_plan (d_cons (d_vr (pv 2)) (d_cons (d_cut rfl (d_pk (pv 10)) o_none (o_some (toP (d_op monoR (o_mul rfl) (toP d_int) (d_pk (pv 2)))))) d_nil))))
  (s_one (s_if (d_tnot (d_tT rfl (toP (c_call tkF (D__law_same Z 8) hr (by omega) (by rfl) Z.g__law_same (d_cons (d_tup (d_cons (c_call tkF (D_plan_chance Z) hr (by omega) (by rfl) Z.g_plan_chance (d_cons (d_vr (pv 2)) (d_cons (d_vr (pv 11)) (d_cons (d_vr (pv 3)) d_nil)))) (d_cons (c_call tkF (D_told_within Z) hr (by omega) (by rfl) Z.g_told_within (d_cons (d_vr (pv 2)) (d_cons (d_vr (pv 3)) (d_cons d_int d_nil)))) d_nil))) (d_cons (d_op monoR (o_mul rfl) (toP (d_tup (d_cons (c_call tkF (D__law_within Z) hr (by omega) (by rfl) Z.g__law_within (d_cons (d_vr (pv 2)) (d_cons (d_vr (pv 3)) (d_cons d_int d_nil)))) d_nil))) (toP d_int)) d_nil)))))) (s_one (s_ret d_bl)) s_nil)))))))))))))))
  (s_one (s_ret (c_call tkF (D__law_same Z 8) hr (by omega) (by rfl) Z.g__law_same (d_cons (d_tup (d_cons (c_call tkF (D_told_within Z) hr (by omega) (by rfl) Z.g_told_within (d_cons d_int (d_cons (d_tup (d_cons d_int (d_cons d_int d_nil))) (d_cons d_int d_nil)))) (d_cons (c_call tkF (D_plan_chance Z) hr (by omega) (by rfl) Z.g_plan_chance (d_cons d_int (d_cons (d_tup (d_cons (d_tup (d_cons (d_str (by rfl) (by rfl)) (d_cons d_int d_nil))) d_nil)) (d_cons (d_tup (d_cons d_int (d_cons d_int d_nil))) d_nil)))) d_nil))) (d_cons (d_tup (d_cons (d_tup (d_cons d_int (d_cons d_int d_nil))) (d_cons (d_tup (d_cons d_int (d_cons d_int d_nil))) d_nil))) d_nil)))))))
theorem N__law_right : FnScope ["well"] ["well"] (defScope (top 81)) := ⟨rfl, rfl, rfl, by decide +kernel, rfl, by decide +kernel, by decide +kernel⟩
def B__law_right : Sv := (sRet (eAnd (eCall M__law_one_right (eCons (vr 0) eNil)) (eCall M__law_two_right (eCons (vr 0) eNil))))
abbrev M__law_right : List Slot → Sto → Res D := fnM 0 B__law_right
abbrev sh__law_right : List Shp := []
theorem D__law_right (Z : Fx K mg base T) : DFn P w K mg base (G P w K mg base T) 11 (He.ga K "_law_right") 1 sh__law_right M__law_right := by
  obtain ⟨fd, F⟩ := Z.f__law_right
  exact dfn_of F N__law_right rfl rfl (fun kV doc pm an cdv ct us hl => match us, hl with | [_], _ => rfl) (by intro t ht kV doc pm an cdv ct us ws h1 h2; cases ht) (fun A outer s H E W hr => (s_one (s_ret (d_andV monoR blR (toP (c_call tkF (D__law_one_right Z) hr (by omega) (by rfl) Z.g__law_one_right (d_cons (d_vr (pv 0)) d_nil))) (d_one (c_call tkF (D__law_two_right Z) hr (by omega) (by rfl) Z.g__law_two_right (d_cons (d_vr (pv 0)) d_nil)))))))
theorem N__law_well : FnScope ["script", "lap", "stirred", "cell", "own"] ["script", "lap"] (defScope (top 62)) := ⟨rfl, rfl, rfl, by decide +kernel, rfl, by decide +kernel, by decide +kernel⟩
def B__law_well : Sv := (sSeq (sSet 2 (e2 addS (kc (.int 706001)) (e2 mulS (kc (.int 6311)) (pk 1))))
  (sSeq (sFor (.nm 3) (iSeq (eCut (pk 0) oNone (oSome (kc (.int 16))))) (sSet 2 (e2 modS (eN intC (eCons (e2 addS (e2 addS (e2 mulS (pk 2) (kc (.int 48271))) (e2 modS (eN intC (eCons (pk 3) eNil)) (kc (.int 2147483549)))) (kc (.int 23))) eNil)) (kc (.int 2147483587)))))
  (sSeq (sSet 4 (eIf (tB (e2 ltS (pk 1) (eN lenC (eCons (pk 0) eNil)))) (eN intC (eCons (e2 ixS (pk 0) (pk 1)) eNil)) (kc (.int 0))))
  (sSeq (sSet 2 (e2 modS (eN intC (eCons (e2 addS (e2 addS (e2 mulS (pk 2) (kc (.int 53))) (e2 mulS (e2 modS (eN intC (eCons (pk 4) eNil)) (kc (.int 2147483549))) (kc (.int 15013)))) (kc (.int 11))) eNil)) (kc (.int 2147483587))))
  (sRet (eTo (eLst (eCons (eIf (tOr (tB (e2 ltS (pk 4) (kc (.int 0)))) (tB (e2 geS (pk 4) (e2 powS (kc (.int 10)) (kc (.int 15)))))) (e2 modS (eN absC (eCons (pk 4) eNil)) (e2 powS (kc (.int 10)) (kc (.int 60)))) (kc (.int 0))) (eCons (vr 2) (eCons (kc (.int 0)) eNil))))))))))
abbrev M__law_well : List Slot → Sto → Res D := fnM 3 B__law_well
abbrev sh__law_well : List Shp := []
theorem D__law_well (Z : Fx K mg base T) : DFn P w K mg base (G P w K mg base T) 1 (He.ga K "_law_well") 2 sh__law_well M__law_well := by
  obtain ⟨fd, F⟩ := Z.f__law_well
  exact dfn_of F N__law_well rfl rfl (fun kV doc pm an cdv ct us hl => match us, hl with | [_, _], _ => rfl) (by intro t ht kV doc pm an cdv ct us ws h1 h2; cases ht) (fun A outer s H E W hr => (s_cons (s_set (i := 2) N__law_well.nd rfl (by first | exact Or.inl rfl | exact Or.inr rfl) (d_op monoR (o_add rfl) (toP d_int) (toP (d_op monoR (o_mul rfl) (toP d_int) (d_pk (pv 1))))))
  (s_cons (s_for owF rfl (i_seq rfl (d_cut rfl (d_pk (pv 0)) o_none (o_some (toP d_int)))) (g_nm (i := 3) N__law_well.nd (by rfl) (by first | exact Or.inl rfl | exact Or.inr rfl)) (s_one (s_set (i := 2) N__law_well.nd rfl (by first | exact Or.inl rfl | exact Or.inr rfl) (d_op monoR o_mod (toP (d_callTy monoR c_int (by rfl) Z.n_int b_int (q_cons (toP (d_op monoR (o_add rfl) (toP (d_op monoR (o_add rfl) (toP (d_op monoR (o_mul rfl) (d_pk (pv 2)) (toP d_int))) (toP (d_op monoR o_mod (toP (d_callTy monoR c_int (by rfl) Z.n_int b_int (q_cons (d_pk (pv 3)) q_nil))) (toP d_int))))) (toP d_int))) q_nil))) (toP d_int)))))
  (s_cons (s_set (i := 4) N__law_well.nd rfl (by first | exact Or.inl rfl | exact Or.inr rfl) (d_if monoR (d_tcmp (o_lt rfl (room_un hr)) (d_pk (pv 1)) (toP (d_callB monoR (c_len rfl) (by rfl) Z.n_len b_len (q_cons (d_pk (pv 0)) q_nil))) (nomark _)) (d_callTy monoR c_int (by rfl) Z.n_int b_int (q_cons (toP (d_ix rfl (room_un1 hr) (d_pk (pv 0)) (d_pk (pv 1)))) q_nil)) d_int))
  (s_cons (s_set (i := 2) N__law_well.nd rfl (by first | exact Or.inl rfl | exact Or.inr rfl) (d_op monoR o_mod (toP (d_callTy monoR c_int (by rfl) Z.n_int b_int (q_cons (toP (d_op monoR (o_add rfl) (toP (d_op monoR (o_add rfl) (toP (d_op monoR (o_mul rfl) (d_pk (pv 2)) (toP d_int))) (toP (d_op monoR (o_mul rfl) (toP (d_op monoR o_mod (toP (d_callTy monoR c_int (by rfl) Z.n_int b_int (q_cons (d_pk (pv 4)) q_nil))) (toP d_int))) (toP d_int))))) (toP d_int))) q_nil))) (toP d_int)))
  (s_one (s_ret (d_to (d_lst (d_cons (d_if monoR (PW.pt (d_or (d_tcmp (o_lt rfl (room_un hr)) (d_pk (pv 4)) (toP d_int) (nomark _)) (d_or1 (d_tcmp (o_ge rfl (room_un hr)) (d_pk (pv 4)) (toP (d_op monoR o_pow (toP d_int) (toP d_int))) (nomark _))))) (d_op monoR o_mod (toP (d_callB monoR c_abs (by rfl) Z.n_abs b_abs (q_cons (d_pk (pv 4)) q_nil))) (toP (d_op monoR o_pow (toP d_int) (toP d_int)))) d_int) (d_cons (d_vr (pv 2)) (d_cons d_int d_nil))))))))))))
theorem N_law : FnScope ["script"] ["script"] (defScope (top 82)) := ⟨rfl, rfl, rfl, by decide +kernel, rfl, by decide +kernel, by decide +kernel⟩
def B_law : Sv := (sRet (eCall M__law_right (eCons (eCall M__law_well (eCons (vr 0) (eCons (kc (.int 0)) eNil))) eNil)))
abbrev M_law : List Slot → Sto → Res D := fnM 0 B_law
abbrev sh_law : List Shp := []
theorem D_law (Z : Fx K mg base T) : DFn P w K mg base (G P w K mg base T) 12 (He.ga K "law") 1 sh_law M_law := by
  obtain ⟨fd, F⟩ := Z.f_law
  exact dfn_of F N_law rfl rfl (fun kV doc pm an cdv ct us hl => match us, hl with | [_], _ => rfl) (by intro t ht kV doc pm an cdv ct us ws h1 h2; cases ht) (fun A outer s H E W hr => (s_one (s_ret (c_call tkF (D__law_right Z) hr (by omega) (by rfl) Z.g__law_right (d_cons (c_call tkF (D__law_well Z) hr (by omega) (by rfl) Z.g__law_well (d_cons (d_vr (pv 0)) (d_cons d_int d_nil))) d_nil)))))
theorem F_law (Z : Fx K mg base T) {fd : FuncData} (F : FunD K "law" "law" (defArgs (top 82)) (defBody (top 82)) (defScope (top 82)) [] [] (He.ga K "law") fd) : FnOk P w K mg base (L2.CX P w) 12 (He.ga K "law") fd ["script"] (spF (G P w K mg base T) 1 M_law) :=
  fn_at F N_law rfl rfl (fun A outer s H E W hr => (s_one (s_ret (c_call tkF (D__law_right Z) hr (by omega) (by rfl) Z.g__law_right (d_cons (c_call tkF (D__law_well Z) hr (by omega) (by rfl) Z.g__law_well (d_cons (d_vr (pv 0)) (d_cons d_int d_nil))) d_nil)))))
end K63

set_option Elab.async false
set_option linter.all false
set_option maxRecDepth 100000
set_option maxHeartbeats 0
namespace K63
open PySem PySem.Spec PyProof.Rows L2 NdefX LamX DL
def dfs0 : List He.DefD := [⟨("_law_draw", none), "_law_draw", "_law_draw", defArgs (top 63), defBody (top 63), defScope (top 63), [], []⟩, ⟨("_law_lowest", none), "_law_lowest", "_law_lowest", defArgs (top 67), defBody (top 67), defScope (top 67), [], []⟩, ⟨("_law_comes", none), "_law_comes", "_law_comes", defArgs (top 72), defBody (top 72), defScope (top 72), [], []⟩, ⟨("_law_chosen", none), "_law_chosen", "_law_chosen", defArgs (top 74), defBody (top 74), defScope (top 74), [], []⟩, ⟨("_law_times", none), "_law_times", "_law_times", defArgs (top 69), defBody (top 69), defScope (top 69), [], []⟩, ⟨("_law_power", none), "_law_power", "_law_power", defArgs (top 71), defBody (top 71), defScope (top 71), [], []⟩, ⟨("_law_less", none), "_law_less", "_law_less", defArgs (top 70), defBody (top 70), defScope (top 70), [], []⟩, ⟨("_law_added", none), "_law_added", "_law_added", defArgs (top 68), defBody (top 68), defScope (top 68), [], []⟩, ⟨("_law_mean", none), "_law_mean", "_law_mean", defArgs (top 75), defBody (top 75), defScope (top 75), [], []⟩, ⟨("_law_mean_on", none), "_law_mean_on", "_law_mean_on", defArgs (top 76), defBody (top 76), defScope (top 76), [], []⟩]
def dfs1 : List He.DefD := [⟨("_law_same", none), "_law_same", "_law_same", defArgs (top 65), defBody (top 65), defScope (top 65), [], []⟩, ⟨("is_whole", none), "is_whole", "is_whole", defArgs (top 3), defBody (top 3), defScope (top 3), [], []⟩, ⟨("is_between", none), "is_between", "is_between", defArgs (top 4), defBody (top 4), defScope (top 4), [], []⟩, ⟨("check_many", none), "check_many", "check_many", defArgs (top 50), defBody (top 50), defScope (top 50), [], []⟩, ⟨("is_tuple_of", none), "is_tuple_of", "is_tuple_of", defArgs (top 7), defBody (top 7), defScope (top 7), [], []⟩, ⟨("is_pair", none), "is_pair", "is_pair", defArgs (top 8), defBody (top 8), defScope (top 8), [], []⟩, ⟨("is_chance", none), "is_chance", "is_chance", defArgs (top 14), defBody (top 14), defScope (top 14), [], []⟩, ⟨("check_comes", none), "check_comes", "check_comes", defArgs (top 31), defBody (top 31), defScope (top 31), [], []⟩, ⟨("check_both", none), "check_both", "check_both", defArgs (top 56), defBody (top 56), defScope (top 56), [], []⟩, ⟨("less_from_one", none), "less_from_one", "less_from_one", defArgs (top 39), defBody (top 39), defScope (top 39), [], []⟩]
def dfs2 : List He.DefD := [⟨("power", none), "power", "power", defArgs (top 16), defBody (top 16), defScope (top 16), [], []⟩, ⟨("to_power", none), "to_power", "to_power", defArgs (top 42), defBody (top 42), defScope (top 42), [], []⟩, ⟨("lowest", none), "lowest", "lowest", defArgs (top 15), defBody (top 15), defScope (top 15), [], []⟩, ⟨("plus", none), "plus", "plus", defArgs (top 41), defBody (top 41), defScope (top 41), [], []⟩, ⟨("ways_of", none), "ways_of", "ways_of", defArgs (top 44), defBody (top 44), defScope (top 44), [], []⟩, ⟨("told_by", none), "told_by", "told_by", defArgs (top 45), defBody (top 45), defScope (top 45), [], []⟩, ⟨("mean_told", none), "mean_told", "mean_told", defArgs (top 58), defBody (top 58), defScope (top 58), [], []⟩, ⟨("on_by", none), "on_by", "on_by", defArgs (top 46), defBody (top 46), defScope (top 46), [], []⟩, ⟨("mean_on", none), "mean_on", "mean_on", defArgs (top 59), defBody (top 59), defScope (top 59), [], []⟩, ⟨("is_up_to", none), "is_up_to", "is_up_to", defArgs (top 5), defBody (top 5), defScope (top 5), [], []⟩]
def dfs3 : List He.DefD := [⟨("check_number", none), "check_number", "check_number", defArgs (top 49), defBody (top 49), defScope (top 49), [], []⟩, ⟨("within_by", none), "within_by", "within_by", defArgs (top 43), defBody (top 43), defScope (top 43), [], []⟩, ⟨("told_within", none), "told_within", "told_within", defArgs (top 57), defBody (top 57), defScope (top 57), [], []⟩, ⟨("_law_within", none), "_law_within", "_law_within", defArgs (top 73), defBody (top 73), defScope (top 73), [], []⟩, ⟨("_law_two_right", none), "_law_two_right", "_law_two_right", defArgs (top 80), defBody (top 80), defScope (top 80), [], []⟩, ⟨("_law_of", none), "_law_of", "_law_of", defArgs (top 64), defBody (top 64), defScope (top 64), [], []⟩, ⟨("_law_names", none), "_law_names", "_law_names", defArgs (top 66), defBody (top 66), defScope (top 66), [], []⟩, ⟨("_law_plan", none), "_law_plan", "_law_plan", defArgs (top 77), defBody (top 77), defScope (top 77), [], []⟩, ⟨("_law_plan_chance", none), "_law_plan_chance", "_law_plan_chance", defArgs (top 78), defBody (top 78), defScope (top 78), [], []⟩, ⟨("wrong_in", none), "wrong_in", "wrong_in", defArgs (top 9), defBody (top 9), defScope (top 9), [], []⟩]
def dfs4 : List He.DefD := [⟨("is_small", none), "is_small", "is_small", defArgs (top 6), defBody (top 6), defScope (top 6), [], []⟩, ⟨("is_name", none), "is_name", "is_name", defArgs (top 29), defBody (top 29), defScope (top 29), [], []⟩, ⟨("is_bearer", none), "is_bearer", "is_bearer", defArgs (top 33), defBody (top 33), defScope (top 33), [], []⟩, ⟨("wrong_in_plan", none), "wrong_in_plan", "wrong_in_plan", defArgs (top 34), defBody (top 34), defScope (top 34), [], []⟩, ⟨("check_plan", none), "check_plan", "check_plan", defArgs (top 52), defBody (top 52), defScope (top 52), [], []⟩, ⟨("bearers_of", none), "bearers_of", "bearers_of", defArgs (top 36), defBody (top 36), defScope (top 36), [], []⟩, ⟨("times", none), "times", "times", defArgs (top 40), defBody (top 40), defScope (top 40), [], []⟩, ⟨("plan_by", none), "plan_by", "plan_by", defArgs (top 47), defBody (top 47), defScope (top 47), [], []⟩, ⟨("plan_chance", none), "plan_chance", "plan_chance", defArgs (top 60), defBody (top 60), defScope (top 60), [], []⟩, ⟨("are_below", none), "are_below", "are_below", defArgs (top 10), defBody (top 10), defScope (top 10), [], []⟩]
def dfs5 : List He.DefD := [⟨("wrong_in_flock", none), "wrong_in_flock", "wrong_in_flock", defArgs (top 35), defBody (top 35), defScope (top 35), [], []⟩, ⟨("check_flock", none), "check_flock", "check_flock", defArgs (top 53), defBody (top 53), defScope (top 53), [], []⟩, ⟨("even_by", none), "even_by", "even_by", defArgs (top 37), defBody (top 37), defScope (top 37), [], []⟩, ⟨("even_plan", none), "even_plan", "even_plan", defArgs (top 54), defBody (top 54), defScope (top 54), [], []⟩, ⟨("_law_one_right", none), "_law_one_right", "_law_one_right", defArgs (top 79), defBody (top 79), defScope (top 79), [], []⟩, ⟨("_law_right", none), "_law_right", "_law_right", defArgs (top 81), defBody (top 81), defScope (top 81), [], []⟩, ⟨("_law_well", none), "_law_well", "_law_well", defArgs (top 62), defBody (top 62), defScope (top 62), [], []⟩, ⟨("law", none), "law", "law", defArgs (top 82), defBody (top 82), defScope (top 82), [], []⟩]
def dfs : List He.DefD := dfs0 ++ dfs1 ++ dfs2 ++ dfs3 ++ dfs4 ++ dfs5
def fas0 : List He.Fa := [.free "range", .free "divmod", .free "int", .glo "_law_draw", .glo "_law_lowest", .glo "_law_comes", .free "len", .glo "_law_chosen", .glo "_law_times", .glo "_law_power", .glo "_law_less", .glo "_law_added", .glo "_law_mean", .glo "_law_mean_on", .free "isinstance", .free "tuple", .glo "_law_same", .free "all", .free "bool", .free "str", .free "dict", .free "list", .glo "is_whole", .glo "is_between", .int "MOST_PARTS" (15), .glo "check_many", .glo "is_tuple_of", .glo "is_pair", .glo "is_chance", .glo "check_comes"]
def fas1 : List He.Fa := [.glo "check_both", .glo "less_from_one", .glo "power", .glo "to_power", .glo "lowest", .glo "plus", .glo "ways_of", .glo "told_by", .glo "mean_told", .glo "on_by", .glo "mean_on", .free "min", .glo "is_up_to", .int "MOST_NUMBER" (99), .glo "check_number", .glo "within_by", .glo "told_within", .glo "_law_within", .glo "_law_two_right", .glo "_law_of", .free "sorted", .glo "_law_names", .glo "_law_plan", .glo "_law_plan_chance", .free "enumerate", .glo "wrong_in", .int "MOST_SIGNS" (6), .str "LETTERS" "abcdefghijklmnopqrstuvwxyz", .glo "is_small", .glo "is_name"]
def fas2 : List He.Fa := [.glo "is_bearer", .glo "wrong_in_plan", .glo "check_plan", .glo "bearers_of", .glo "times", .glo "plan_by", .glo "plan_chance", .glo "are_below", .glo "wrong_in_flock", .glo "check_flock", .glo "even_by", .glo "even_plan", .glo "_law_one_right", .glo "_law_right", .free "abs", .glo "_law_well", .glo "law"]
def fas : List He.Fa := fas0 ++ fas1 ++ fas2
def gps : List DefP := []
def tfs : List He.Defn := [("wrong_in_plan", none), ("wrong_in_flock", none)]
def eqs : List Xf := [.bf "gcd" "math.gcd", .tps "KINDS" ["post", "way", "bird"], .ne ("wrong_in_flock", none) ("wrong_in_plan", none), .ne ("wrong_in_plan", none) ("wrong_in_flock", none)]
def loose0 : List Str := ["__name__", "LETTERS", "is_whole", "is_between", "is_up_to", "is_small", "is_tuple_of", "is_pair", "wrong_in", "are_below", "MOST_NUMBER", "MOST_PARTS", "is_chance", "lowest", "power", "DoveError", "InvalidNumber", "InvalidFraction", "InvalidBirds", "InvalidPlan", "POST", "WAY", "BIRD", "KINDS", "MOST_SIGNS", "is_name", "check_comes", "is_bearer", "wrong_in_plan", "wrong_in_flock"]
def loose1 : List Str := ["bearers_of", "even_by", "less_from_one", "times", "plus", "to_power", "within_by", "ways_of", "told_by", "on_by", "plan_by", "check_number", "check_many", "check_plan", "check_flock", "even_plan", "check_both", "told_within", "mean_told", "mean_on", "plan_chance", "_law_well", "_law_draw", "_law_of", "_law_same", "_law_names", "_law_lowest", "_law_added", "_law_times", "_law_less"]
def loose2 : List Str := ["_law_power", "_law_comes", "_law_within", "_law_chosen", "_law_mean", "_law_mean_on", "_law_plan", "_law_plan_chance", "_law_one_right", "_law_two_right", "_law_right"]
def loose : List Str := loose0 ++ loose1 ++ loose2
abbrev R : PySem.W.OpenRow := PySem.W.OpenLaw.row PySem.Challenge.rw_doveposts_k63_whole_chances_and_mean_num
abbrev hk : PySem.W.Hook := hookP 7 fas dfs [] tfs gps eqs
def ob (s : PySem.W.SharedT) : AlP := obsP 7 fas dfs [] tfs gps eqs (HandSHeadRun.getT s)
theorem ob_eq (s : PySem.W.SharedT) : ob s = hk.obs s.abs := obsP_eq (HandSHeadRun.getT_eq s)
theorem run (w : World) : HandSHeadRun.RunEqI R (PySem.W.view R.prog [0, 82]) hk ob 4000 loose w := by
  unfold HandSHeadRun.RunEqI
  kernel_rfl
def TT (K : PySem.W.Frag) : List NTab := [((He.tabOf K (He.codeOf K ("wrong_in_plan", none))), fun _ _ => ("wrong_in_plan" : Str) ++ ".<locals>." ++ "<lambda>"), ((He.tabOf K (He.codeOf K ("wrong_in_flock", none))), fun _ _ => ("wrong_in_flock" : Str) ++ ".<locals>." ++ "<lambda>")]
theorem fx {K : PySem.W.Frag} {w : World} {h : Heap} {mg : Str → Option Value} {base : Heap} (c : SaysP fas dfs [] tfs gps eqs w h K) (KB : K.In base) (GB : base.Ns mainGlobals mg) (hTB : ∀ p ∈ tfs.map (He.cT K), TabB base mg p.1 p.2) : Fx K mg base (TT K) where
  n_range := He.free_ok KB GB (c.x.t.d.fact 0 (f := .free "range") rfl)
  n_divmod := He.free_ok KB GB (c.x.t.d.fact 1 (f := .free "divmod") rfl)
  n_int := He.free_ok KB GB (c.x.t.d.fact 2 (f := .free "int") rfl)
  f__law_draw := c.x.t.d.def_ 0 rfl
  g__law_draw := He.glo_ok KB GB (c.x.t.d.fact 3 (f := .glo "_law_draw") rfl)
  f__law_lowest := c.x.t.d.def_ 1 rfl
  g__law_lowest := He.glo_ok KB GB (c.x.t.d.fact 4 (f := .glo "_law_lowest") rfl)
  f__law_comes := c.x.t.d.def_ 2 rfl
  g__law_comes := He.glo_ok KB GB (c.x.t.d.fact 5 (f := .glo "_law_comes") rfl)
  n_len := He.free_ok KB GB (c.x.t.d.fact 6 (f := .free "len") rfl)
  f__law_chosen := c.x.t.d.def_ 3 rfl
  g__law_chosen := He.glo_ok KB GB (c.x.t.d.fact 7 (f := .glo "_law_chosen") rfl)
  f__law_times := c.x.t.d.def_ 4 rfl
  g__law_times := He.glo_ok KB GB (c.x.t.d.fact 8 (f := .glo "_law_times") rfl)
  f__law_power := c.x.t.d.def_ 5 rfl
  g__law_power := He.glo_ok KB GB (c.x.t.d.fact 9 (f := .glo "_law_power") rfl)
  f__law_less := c.x.t.d.def_ 6 rfl
  g__law_less := He.glo_ok KB GB (c.x.t.d.fact 10 (f := .glo "_law_less") rfl)
  f__law_added := c.x.t.d.def_ 7 rfl
  g__law_added := He.glo_ok KB GB (c.x.t.d.fact 11 (f := .glo "_law_added") rfl)
  f__law_mean := c.x.t.d.def_ 8 rfl
  g__law_mean := He.glo_ok KB GB (c.x.t.d.fact 12 (f := .glo "_law_mean") rfl)
  f__law_mean_on := c.x.t.d.def_ 9 rfl
  g__law_mean_on := He.glo_ok KB GB (c.x.t.d.fact 13 (f := .glo "_law_mean_on") rfl)
  n_isinstance := He.free_ok KB GB (c.x.t.d.fact 14 (f := .free "isinstance") rfl)
  n_tuple := He.free_ok KB GB (c.x.t.d.fact 15 (f := .free "tuple") rfl)
  g__law_same := He.glo_ok KB GB (c.x.t.d.fact 16 (f := .glo "_law_same") rfl)
  n_all := He.free_ok KB GB (c.x.t.d.fact 17 (f := .free "all") rfl)
  n_bool := He.free_ok KB GB (c.x.t.d.fact 18 (f := .free "bool") rfl)
  n_str := He.free_ok KB GB (c.x.t.d.fact 19 (f := .free "str") rfl)
  n_dict := He.free_ok KB GB (c.x.t.d.fact 20 (f := .free "dict") rfl)
  n_list := He.free_ok KB GB (c.x.t.d.fact 21 (f := .free "list") rfl)
  f__law_same := c.x.t.d.def_ 10 rfl
  f_is_whole := c.x.t.d.def_ 11 rfl
  g_is_whole := He.glo_ok KB GB (c.x.t.d.fact 22 (f := .glo "is_whole") rfl)
  f_is_between := c.x.t.d.def_ 12 rfl
  g_is_between := He.glo_ok KB GB (c.x.t.d.fact 23 (f := .glo "is_between") rfl)
  i_MOST_PARTS := He.int_ok KB GB (c.x.t.d.fact 24 (f := .int "MOST_PARTS" (15)) rfl)
  f_check_many := c.x.t.d.def_ 13 rfl
  g_check_many := He.glo_ok KB GB (c.x.t.d.fact 25 (f := .glo "check_many") rfl)
  f_is_tuple_of := c.x.t.d.def_ 14 rfl
  g_is_tuple_of := He.glo_ok KB GB (c.x.t.d.fact 26 (f := .glo "is_tuple_of") rfl)
  f_is_pair := c.x.t.d.def_ 15 rfl
  g_is_pair := He.glo_ok KB GB (c.x.t.d.fact 27 (f := .glo "is_pair") rfl)
  b_gcd := bf_ok KB GB (c.xfs (List.mem_of_getElem? (i := 0) rfl))
  f_is_chance := c.x.t.d.def_ 16 rfl
  g_is_chance := He.glo_ok KB GB (c.x.t.d.fact 28 (f := .glo "is_chance") rfl)
  f_check_comes := c.x.t.d.def_ 17 rfl
  g_check_comes := He.glo_ok KB GB (c.x.t.d.fact 29 (f := .glo "check_comes") rfl)
  f_check_both := c.x.t.d.def_ 18 rfl
  g_check_both := He.glo_ok KB GB (c.x.t.d.fact 30 (f := .glo "check_both") rfl)
  f_less_from_one := c.x.t.d.def_ 19 rfl
  g_less_from_one := He.glo_ok KB GB (c.x.t.d.fact 31 (f := .glo "less_from_one") rfl)
  f_power := c.x.t.d.def_ 20 rfl
  g_power := He.glo_ok KB GB (c.x.t.d.fact 32 (f := .glo "power") rfl)
  f_to_power := c.x.t.d.def_ 21 rfl
  g_to_power := He.glo_ok KB GB (c.x.t.d.fact 33 (f := .glo "to_power") rfl)
  f_lowest := c.x.t.d.def_ 22 rfl
  g_lowest := He.glo_ok KB GB (c.x.t.d.fact 34 (f := .glo "lowest") rfl)
  f_plus := c.x.t.d.def_ 23 rfl
  g_plus := He.glo_ok KB GB (c.x.t.d.fact 35 (f := .glo "plus") rfl)
  f_ways_of := c.x.t.d.def_ 24 rfl
  g_ways_of := He.glo_ok KB GB (c.x.t.d.fact 36 (f := .glo "ways_of") rfl)
  f_told_by := c.x.t.d.def_ 25 rfl
  g_told_by := He.glo_ok KB GB (c.x.t.d.fact 37 (f := .glo "told_by") rfl)
  f_mean_told := c.x.t.d.def_ 26 rfl
  g_mean_told := He.glo_ok KB GB (c.x.t.d.fact 38 (f := .glo "mean_told") rfl)
  f_on_by := c.x.t.d.def_ 27 rfl
  g_on_by := He.glo_ok KB GB (c.x.t.d.fact 39 (f := .glo "on_by") rfl)
  f_mean_on := c.x.t.d.def_ 28 rfl
  g_mean_on := He.glo_ok KB GB (c.x.t.d.fact 40 (f := .glo "mean_on") rfl)
  n_min := He.free_ok KB GB (c.x.t.d.fact 41 (f := .free "min") rfl)
  f_is_up_to := c.x.t.d.def_ 29 rfl
  g_is_up_to := He.glo_ok KB GB (c.x.t.d.fact 42 (f := .glo "is_up_to") rfl)
  i_MOST_NUMBER := He.int_ok KB GB (c.x.t.d.fact 43 (f := .int "MOST_NUMBER" (99)) rfl)
  f_check_number := c.x.t.d.def_ 30 rfl
  g_check_number := He.glo_ok KB GB (c.x.t.d.fact 44 (f := .glo "check_number") rfl)
  f_within_by := c.x.t.d.def_ 31 rfl
  g_within_by := He.glo_ok KB GB (c.x.t.d.fact 45 (f := .glo "within_by") rfl)
  f_told_within := c.x.t.d.def_ 32 rfl
  g_told_within := He.glo_ok KB GB (c.x.t.d.fact 46 (f := .glo "told_within") rfl)
  f__law_within := c.x.t.d.def_ 33 rfl
  g__law_within := He.glo_ok KB GB (c.x.t.d.fact 47 (f := .glo "_law_within") rfl)
  f__law_two_right := c.x.t.d.def_ 34 rfl
  g__law_two_right := He.glo_ok KB GB (c.x.t.d.fact 48 (f := .glo "_law_two_right") rfl)
  f__law_of := c.x.t.d.def_ 35 rfl
  g__law_of := He.glo_ok KB GB (c.x.t.d.fact 49 (f := .glo "_law_of") rfl)
  n_sorted := He.free_ok KB GB (c.x.t.d.fact 50 (f := .free "sorted") rfl)
  f__law_names := c.x.t.d.def_ 36 rfl
  g__law_names := He.glo_ok KB GB (c.x.t.d.fact 51 (f := .glo "_law_names") rfl)
  f__law_plan := c.x.t.d.def_ 37 rfl
  g__law_plan := He.glo_ok KB GB (c.x.t.d.fact 52 (f := .glo "_law_plan") rfl)
  f__law_plan_chance := c.x.t.d.def_ 38 rfl
  g__law_plan_chance := He.glo_ok KB GB (c.x.t.d.fact 53 (f := .glo "_law_plan_chance") rfl)
  n_enumerate := He.free_ok KB GB (c.x.t.d.fact 54 (f := .free "enumerate") rfl)
  f_wrong_in := c.x.t.d.def_ 39 rfl
  g_wrong_in := He.glo_ok KB GB (c.x.t.d.fact 55 (f := .glo "wrong_in") rfl)
  t_KINDS := tps_ok KB GB (c.xfs (List.mem_of_getElem? (i := 1) rfl))
  i_MOST_SIGNS := He.int_ok KB GB (c.x.t.d.fact 56 (f := .int "MOST_SIGNS" (6)) rfl)
  s_LETTERS := He.str_ok KB GB (c.x.t.d.fact 57 (f := .str "LETTERS" "abcdefghijklmnopqrstuvwxyz") rfl)
  f_is_small := c.x.t.d.def_ 40 rfl
  g_is_small := He.glo_ok KB GB (c.x.t.d.fact 58 (f := .glo "is_small") rfl)
  f_is_name := c.x.t.d.def_ 41 rfl
  g_is_name := He.glo_ok KB GB (c.x.t.d.fact 59 (f := .glo "is_name") rfl)
  f_is_bearer := c.x.t.d.def_ 42 rfl
  g_is_bearer := He.glo_ok KB GB (c.x.t.d.fact 60 (f := .glo "is_bearer") rfl)
  tb_wrong_in_plan := hTB _ (List.mem_of_getElem? (i := 0) rfl)
  tm_wrong_in_plan := List.mem_of_getElem? (i := 0) rfl
  tu_wrong_in_plan := by intro q hq e; cases hq with | head => rfl | tail _ hq => cases hq with | head => exact absurd e (ne_ok (c.xfs (List.mem_of_getElem? (i := 2) rfl))) | tail _ hq => cases hq
  f_wrong_in_plan := c.x.t.d.def_ 43 rfl
  g_wrong_in_plan := He.glo_ok KB GB (c.x.t.d.fact 61 (f := .glo "wrong_in_plan") rfl)
  f_check_plan := c.x.t.d.def_ 44 rfl
  g_check_plan := He.glo_ok KB GB (c.x.t.d.fact 62 (f := .glo "check_plan") rfl)
  f_bearers_of := c.x.t.d.def_ 45 rfl
  g_bearers_of := He.glo_ok KB GB (c.x.t.d.fact 63 (f := .glo "bearers_of") rfl)
  f_times := c.x.t.d.def_ 46 rfl
  g_times := He.glo_ok KB GB (c.x.t.d.fact 64 (f := .glo "times") rfl)
  f_plan_by := c.x.t.d.def_ 47 rfl
  g_plan_by := He.glo_ok KB GB (c.x.t.d.fact 65 (f := .glo "plan_by") rfl)
  f_plan_chance := c.x.t.d.def_ 48 rfl
  g_plan_chance := He.glo_ok KB GB (c.x.t.d.fact 66 (f := .glo "plan_chance") rfl)
  f_are_below := c.x.t.d.def_ 49 rfl
  g_are_below := He.glo_ok KB GB (c.x.t.d.fact 67 (f := .glo "are_below") rfl)
  tb_wrong_in_flock := hTB _ (List.mem_of_getElem? (i := 1) rfl)
  tm_wrong_in_flock := List.mem_of_getElem? (i := 1) rfl
  tu_wrong_in_flock := by intro q hq e; cases hq with | head => exact absurd e (ne_ok (c.xfs (List.mem_of_getElem? (i := 3) rfl))) | tail _ hq => cases hq with | head => rfl | tail _ hq => cases hq
  f_wrong_in_flock := c.x.t.d.def_ 50 rfl
  g_wrong_in_flock := He.glo_ok KB GB (c.x.t.d.fact 68 (f := .glo "wrong_in_flock") rfl)
  f_check_flock := c.x.t.d.def_ 51 rfl
  g_check_flock := He.glo_ok KB GB (c.x.t.d.fact 69 (f := .glo "check_flock") rfl)
  f_even_by := c.x.t.d.def_ 52 rfl
  g_even_by := He.glo_ok KB GB (c.x.t.d.fact 70 (f := .glo "even_by") rfl)
  f_even_plan := c.x.t.d.def_ 53 rfl
  g_even_plan := He.glo_ok KB GB (c.x.t.d.fact 71 (f := .glo "even_plan") rfl)
  f__law_one_right := c.x.t.d.def_ 54 rfl
  g__law_one_right := He.glo_ok KB GB (c.x.t.d.fact 72 (f := .glo "_law_one_right") rfl)
  f__law_right := c.x.t.d.def_ 55 rfl
  g__law_right := He.glo_ok KB GB (c.x.t.d.fact 73 (f := .glo "_law_right") rfl)
  n_abs := He.free_ok KB GB (c.x.t.d.fact 74 (f := .free "abs") rfl)
  f__law_well := c.x.t.d.def_ 56 rfl
  g__law_well := He.glo_ok KB GB (c.x.t.d.fact 75 (f := .glo "_law_well") rfl)
  f_law := c.x.t.d.def_ 57 rfl
def Pure : Prop := ∀ ns : List Int, ns.length ≤ 63 → (∀ z ∈ ns, Builtin.Int.intBits z ≤ 1048576) → ∃ S', M_law [.fz (.scr ns)] [] = .ok (.bl true) S'
theorem holds (pure : Pure) (w : World) (mg : Str → Option Value) (fa : Addr) (h : Heap) (Y : ∃ K : PySem.W.Frag, K.In h ∧ SaysP fas dfs [] tfs gps eqs w h K) (GN : h.Ns mainGlobals mg) (hmg : mg "law" = some (.ref fa)) :
    ∃ K : PySem.W.Frag, K.In h ∧ LamX.LawAtS PySem.Challenge.rw_doveposts_k63_whole_chances_and_mean_num w K (L2.CX PySem.Challenge.rw_doveposts_k63_whole_chances_and_mean_num.prog w) 12 63 "script" mg fa h := by
  obtain ⟨K, KX, c⟩ := Y
  have hga : mg "law" = some (.ref (He.ga K "law")) := He.glo_ok KX GN (c.x.t.d.fact 76 (f := .glo "law") rfl)
  have e := hmg.symm.trans hga
  cases e
  obtain ⟨fd, F⟩ := c.x.t.d.def_ 57 rfl
  have b := FunD.bindsA (ps := ["script"]) F fun _ _ _ _ _ _ us hl => match us, hl with | [_], _ => rfl
  refine ⟨K, KX, fd, tfs.map (He.cT K), fun vs H Q E => ∀ base, spF (G PySem.Challenge.rw_doveposts_k63_whole_chances_and_mean_num.prog w K mg base (TT K)) 1 M_law vs H Q E, fun p hp => ?_, fun p hp => ?_, fun p hp => ?_, fun s v => b s [v] rfl, fun H a ns hl hb hT hS base => ?_, fun base KB GB hTB => ?_⟩
  · obtain ⟨q, hq, rfl⟩ := List.mem_map.mp hp
    exact c.x.empty q hq
  · obtain ⟨q, hq, rfl⟩ := List.mem_map.mp hp
    exact c.x.out q hq
  · obtain ⟨q, hq, rfl⟩ := List.mem_map.mp hp
    exact PySem.W.codeHd_of_K KX (c.x.hd q hq)
  · refine start_sp (fun p hp => ?_) hS (pure ns hl hb)
    have key : ∀ q ∈ tfs, H (He.tabOf K (He.codeOf K q)) = some (.tbl #[]) := fun q hq => hT _ (List.mem_map.mpr ⟨q, hq, rfl⟩)
    have hp2 : ∃ q ∈ tfs, p.1 = He.tabOf K (He.codeOf K q) := by
      cases hp with | head => exact ⟨_, List.mem_of_getElem? (i := 0) rfl, rfl⟩ | tail _ hp => cases hp with | head => exact ⟨_, List.mem_of_getElem? (i := 1) rfl, rfl⟩ | tail _ hp => cases hp
    obtain ⟨q, hq, e⟩ := hp2
    exact ⟨#[], by rw [e]; exact key q hq, by simp [TriplesOk], fun pos cv h => by simp [codeAmong] at h⟩
  · exact (F_law (fx c KB GB hTB) F).imp fun vs H Q E h => h base
end K63
open PySem PySem.W PySem.Calls PyProof.Rows
theorem K63_of (pure : K63.Pure) : PySem.Challenge.rw_doveposts_k63_whole_chances_and_mean_num.Holds := by
  w_on; o_law
  refine HandSHeadRun.head_imp (r := OpenLaw.row PySem.Challenge.rw_doveposts_k63_whole_chances_and_mean_num) (q := view (OpenLaw.row PySem.Challenge.rw_doveposts_k63_whole_chances_and_mean_num).prog [0, 82]) (H := K63.hk) (ob := K63.ob) (M := 4000) (loose := K63.loose) (d := HandSHeadRun.topDef (OpenLaw.row PySem.Challenge.rw_doveposts_k63_whole_chances_and_mean_num).prog 82) (kwd := []) K63.ob_eq
    K63.run (by kernel_rfl) (by kernel_rfl) (by kernel_rfl) (by rfl) (by first | assumption | decide +kernel) (by decide +kernel) ⟨rfl, rfl, rfl, rfl, rfl, by decide +kernel⟩ ?hw ?hc
  case hw => w_witness2
  case hc =>
    refine LamX.walk_ofTsE (l := PySem.Challenge.rw_doveposts_k63_whole_chances_and_mean_num) (n := 63) (k := 12) (x := "script") (CX := fun w => L2.CX PySem.Challenge.rw_doveposts_k63_whole_chances_and_mean_num.prog w) rfl (by decide) (by kernel_rfl) ⟨rfl, by decide, by decide⟩ ?F ?G
    case F =>
      intro w mg fa h Y GN hmg0
      have hmg : mg ("law" : PySem.Str) = some (.ref fa) := by
        have e : (HandSHeadRun.topDef (OpenLaw.row PySem.Challenge.rw_doveposts_k63_whole_chances_and_mean_num).prog 82).name = ("law" : PySem.Str) := by kernel_rfl
        rw [← e]
        exact hmg0
      exact K63.holds pure w mg fa h Y GN hmg
    case G => exact fun w H s e s' ⟨_, _, _, _, _, _, _, _, _, _, _, _, z⟩ => z

set_option linter.all false
set_option maxRecDepth 100000
namespace K63
open DL
abbrev Fr := Int × Int
@[irreducible] def fr (p : Fr) : D := .tup [.int p.1, .int p.2]
theorem fr_def (p : Fr) : fr p = .tup [.int p.1, .int p.2] := by unfold fr; rfl
theorem fr_mk (a b : Int) : D.tup [.int a, .int b] = fr (a, b) := (fr_def (a, b)).symm
@[simp] theorem ix_fr0 {S : Sto} {p : Fr} : ixS S (fr p) (.int 0) = some (.int p.1) := by rw [fr_def, ixS_tup, atL_0]
@[simp] theorem ix_fr1 {S : Sto} {p : Fr} : ixS S (fr p) (.int 1) = some (.int p.2) := by rw [fr_def, ixS_tup, atL_1]
@[irreducible] def low (a b : Int) : Fr := (a / (Nat.gcd a.natAbs b.natAbs : Nat), b / (Nat.gcd a.natAbs b.natAbs : Nat))
def lowL (a b : Int) : Option Fr := if 0 ≤ a ∧ 0 < b ∧ a.natAbs.log2 < 190 ∧ b.natAbs.log2 < 190 then some (low a b) else none
def ok1 (p : Fr) : Bool := decide (p.1.natAbs.log2 < 1000) && decide (p.2.natAbs.log2 < 1000)
def timL (p q : Fr) : Option Fr := if (ok1 p && ok1 q) = true then lowL (p.1 * q.1) (p.2 * q.2) else none
def addL (p q : Fr) : Option Fr := if (ok1 p && ok1 q) = true then lowL (p.1 * q.2 + q.1 * p.2) (p.2 * q.2) else none
@[irreducible] def les (p : Fr) : Fr := (p.2 - p.1, p.2)
def powG (p : Fr) : Nat → Fr → Option Fr
  | 0, x => some x
  | n + 1, x => (timL x p).bind (powG p n)
def powL (p : Fr) (n : Nat) : Option Fr := (powG p n (1, 1)).bind fun x => lowL x.1 x.2
/-! Euclid's laps -/
theorem les_1 (p : Fr) : (les p).1 = p.2 - p.1 := by unfold les; rfl
theorem les_2 (p : Fr) : (les p).2 = p.2 := by unfold les; rfl
def lapE (x : Nat × Nat) : Nat × Nat := if 0 < x.2 then (x.2, x.1 % x.2) else (x.1, 0)
def itE : Nat → Nat × Nat → Nat × Nat
  | 0, x => x
  | n + 1, x => itE n (lapE x)
theorem lapE_gcd (x : Nat × Nat) : Nat.gcd (lapE x).1 (lapE x).2 = Nat.gcd x.1 x.2 := by
  unfold lapE
  split
  · rw [Nat.gcd_comm x.1 x.2, Nat.gcd_rec x.2 x.1, Nat.gcd_comm]
  · rename_i h
    rw [show x.2 = 0 by omega]
theorem itE_zero : ∀ (n a : Nat), itE n (a, 0) = (a, 0)
  | 0, _ => rfl
  | n + 1, a => by
    show itE n (lapE (a, 0)) = _
    rw [show lapE (a, 0) = (a, 0) from rfl]
    exact itE_zero n a
theorem half {a b : Nat} (hb : 0 < b) : b % (a % b) ≤ (b - 1) / 2 ∨ a % b = 0 := by
  by_cases h : a % b = 0
  · exact .inr h
  · left
    have h1 : a % b < b := Nat.mod_lt _ hb
    have h2 : b % (a % b) < a % b := Nat.mod_lt _ (by omega)
    by_cases h3 : a % b ≤ b / 2
    · omega
    · have : b % (a % b) = b - a % b := by
        rw [Nat.mod_eq_sub_mod (by omega), Nat.mod_eq_of_lt (by omega)]
      omega
theorem itE_end : ∀ (k n a b : Nat), b < 2 ^ k → 2 * k + 1 ≤ n → itE n (a, b) = (Nat.gcd a b, 0)
  | 0, n, a, b, h, _ => by
    have : b = 0 := by simpa using h
    subst this
    rw [itE_zero, Nat.gcd_zero_right]
  | k + 1, n, a, b, h, hn => by
    by_cases hb : b = 0
    · subst hb
      rw [itE_zero, Nat.gcd_zero_right]
    · obtain ⟨n', rfl⟩ : ∃ n', n = n' + 2 := ⟨n - 2, by omega⟩
      show itE n' (lapE (lapE (a, b))) = _
      have e1 : lapE (a, b) = (b, a % b) := by unfold lapE; rw [if_pos (show 0 < (a, b).2 by show 0 < b; omega)]
      rw [e1]
      rcases half (a := a) (b := b) (by omega) with h2 | h2
      · by_cases h3 : a % b = 0
        · rw [h3, show lapE (b, 0) = (b, 0) from rfl, itE_zero, Nat.gcd_comm, Nat.gcd_rec, h3, Nat.gcd_zero_left]
        · have e2 : lapE (b, a % b) = (a % b, b % (a % b)) := by unfold lapE; rw [if_pos (show 0 < (b, a % b).2 by show 0 < a % b; omega)]
          rw [e2, itE_end k n' _ _ (by rw [Nat.pow_succ] at h; omega) (by omega)]
          have g1 := lapE_gcd (a, b)
          rw [e1] at g1
          have g2 := lapE_gcd (b, a % b)
          rw [e2] at g2
          rw [Prod.mk.injEq]
          exact ⟨g2.trans g1, rfl⟩
      · rw [h2, show lapE (b, 0) = (b, 0) from rfl, itE_zero, Nat.gcd_comm, Nat.gcd_rec, h2, Nat.gcd_zero_left]
theorem loop_lowest {A B : D} {S : Sto} : ∀ (ds : List D) (a b : Nat) (s : Slot), ∃ s', forGo (.nm 4) (sTg (.tp [(.nm 2), (.nm 3)]) (eIf (tB (e2 gtS (pk 3) (kc (.int 0)))) (eTup (eCons (vr 3) (eCons (e2 modS (eN intC (eCons (pk 2) eNil)) (pk 3)) eNil))) (eTup (eCons (vr 2) (eCons (kc (.int 0)) eNil))))) ds
    [.fz A, .fz B, .fz (.int a), .fz (.int b), s] S = .ok (.nx [.fz A, .fz B, .fz (.int (itE ds.length (a, b)).1), .fz (.int (itE ds.length (a, b)).2), s']) S
  | [], a, b, s => ⟨s, rfl⟩
  | d :: ds, a, b, s => by
    obtain ⟨s', ih⟩ := loop_lowest (A := A) (B := B) (S := S) ds (lapE (a, b)).1 (lapE (a, b)).2 (.fz d)
    refine ⟨s', ?_⟩
    have b1 : (sTg (.tp [(.nm 2), (.nm 3)]) (eIf (tB (e2 gtS (pk 3) (kc (.int 0)))) (eTup (eCons (vr 3) (eCons (e2 modS (eN intC (eCons (pk 2) eNil)) (pk 3)) eNil))) (eTup (eCons (vr 2) (eCons (kc (.int 0)) eNil))))) [.fz A, .fz B, .fz (.int a), .fz (.int b), .fz d] S
        = .ok (.nx [.fz A, .fz B, .fz (.int (lapE (a, b)).1), .fz (.int (lapE (a, b)).2), .fz d]) S := by
      by_cases h : 0 < b
      · have e1 : lapE (a, b) = (b, a % b) := by unfold lapE; rw [if_pos h]
        have h' : (0 : Int) < b := by omega
        simp -implicitDefEqProofs [e1, h, h']
      · have e1 : lapE (a, b) = (a, 0) := by unfold lapE; rw [if_neg h]
        have h' : ¬ (0 : Int) < b := by omega
        simp -implicitDefEqProofs [e1, h, h']
    unfold forGo
    simp only [put_nm, opt_some, Res.bind_ok, List.set_cons_succ, List.set_cons_zero]
    rw [b1]
    exact ih
theorem lowest_ok {a b : Int} {r : Fr} {S : Sto} (h : lowL a b = some r) : M__law_lowest [.fz (.int a), .fz (.int b)] S = .ok (fr r) S := by
  unfold lowL at h
  split at h
  · rename_i hc
    obtain ⟨h1, h2, h3, h4⟩ := hc
    cases h
    obtain ⟨n, rfl⟩ := Int.eq_ofNat_of_zero_le h1
    obtain ⟨m, rfl⟩ := Int.eq_ofNat_of_zero_le (Int.le_of_lt h2)
    have hm : m < 2 ^ 190 := by
      have := Nat.lt_log2_self (n := m)
      exact Nat.lt_of_lt_of_le this (Nat.pow_le_pow_right (by omega) (by have := h4; simp only [Int.natAbs_natCast] at this; omega))
    have hg : 0 < Nat.gcd n m := Nat.gcd_pos_of_pos_right _ (by omega)
    have hgm : Nat.gcd n m ≤ m := Nat.le_of_dvd (by omega) (Nat.gcd_dvd_right n m)
    obtain ⟨s', e⟩ := loop_lowest (A := .int n) (B := .int m) (S := S) (upto 0 400) n m .un
    rw [show (upto 0 400).length = 400 by simp [upto], itE_end 190 400 n m hm (by omega)] at e
    have hl : (Int.natAbs (Nat.gcd n m : Nat)).log2 < 9000 := by
      have : (Nat.gcd n m).log2 < 190 := (Nat.log2_lt (by omega)).mpr (by omega)
      simp only [Int.natAbs_natCast]
      omega
    have f1 : ∀ x : Int, fdivS S (.int x) (.int (Nat.gcd n m : Nat)) = some (.int (x / (Nat.gcd n m : Nat))) := fun x => if_pos ⟨by omega, hl⟩
    unfold low
    ((first | refine ok_ent ?_ | refine eq_ent ?_); simp -implicitDefEqProofs [B__law_lowest, rangeS_1, e, f1, fr_def])
  · cases h
end K63

set_option linter.all false
set_option maxRecDepth 100000
namespace K63
open DL
section
variable {p q r : Fr} {S : Sto} {n : Nat}
theorem mul_ok {a b : Int} {S : Sto} (h : a.natAbs.log2 < 1000) (h2 : b.natAbs.log2 < 1000) : mulS S (.int a) (.int b) = some (.int (a * b)) :=
  mulS_int (by simp only [mulOk, Bool.or_eq_true, decide_eq_true_eq]; right; omega)
theorem ok1_and (h : ok1 p = true) : p.1.natAbs.log2 < 1000 ∧ p.2.natAbs.log2 < 1000 := by
  simpa [ok1] using h
theorem times_ok (h : timL p q = some r) : M__law_times [.fz (fr p), .fz (fr q)] S = .ok (fr r) S := by
  unfold timL at h
  split at h
  · rename_i hc
    rw [Bool.and_eq_true] at hc
    obtain ⟨a1, a2⟩ := ok1_and hc.1
    obtain ⟨b1, b2⟩ := ok1_and hc.2
    ((first | refine ok_ent ?_ | refine eq_ent ?_); simp -implicitDefEqProofs [B__law_times, mul_ok a1 b1, mul_ok a2 b2, lowest_ok h])
  · cases h
theorem added_ok (h : addL p q = some r) : M__law_added [.fz (fr p), .fz (fr q)] S = .ok (fr r) S := by
  unfold addL at h
  split at h
  · rename_i hc
    rw [Bool.and_eq_true] at hc
    obtain ⟨a1, a2⟩ := ok1_and hc.1
    obtain ⟨b1, b2⟩ := ok1_and hc.2
    ((first | refine ok_ent ?_ | refine eq_ent ?_); simp -implicitDefEqProofs [B__law_added, mul_ok a1 b2, mul_ok b1 a2, mul_ok a2 b2, lowest_ok h])
  · cases h
theorem less_ok : M__law_less [.fz (fr p)] S = .ok (fr (les p)) S := by
  ((first | refine ok_ent ?_ | refine eq_ent ?_); simp -implicitDefEqProofs [B__law_less, fr_def, les_1, les_2])
theorem powG_ok : ∀ (n : Nat) (i : Int) (x y : Fr) (s : Slot) (B : D), powG p n x = some y → ∃ s', forGo (.nm 3) (sSet 2 (eCall M__law_times (eCons (vr 2) (eCons (vr 0) eNil)))) (upto i n) [.fz (fr p), .fz B, .fz (fr x), s] S = .ok (.nx [.fz (fr p), .fz B, .fz (fr y), s']) S
  | 0, i, x, y, s, B, h => by cases h; exact ⟨s, rfl⟩
  | n + 1, i, x, y, s, B, h => by
    unfold powG at h
    obtain ⟨z, h1, h2⟩ := Option.bind_eq_some_iff.mp h
    obtain ⟨s', ih⟩ := powG_ok n (i + 1) z y (.fz (.int i)) B h2
    refine ⟨s', ?_⟩
    rw [upto_succ]
    have b1 : (sSet 2 (eCall M__law_times (eCons (vr 2) (eCons (vr 0) eNil)))) [.fz (fr p), .fz B, .fz (fr x), .fz (.int i)] S = .ok (.nx [.fz (fr p), .fz B, .fz (fr z), .fz (.int i)]) S := by
      simp -implicitDefEqProofs [times_ok h1]
    unfold forGo
    simp only [put_nm, opt_some, Res.bind_ok, List.set_cons_succ, List.set_cons_zero]
    rw [b1]
    exact ih
theorem power_ok (h : powL p n = some r) (hn : n ≤ 1000) : M__law_power [.fz (fr p), .fz (.int n)] S = .ok (fr r) S := by
  unfold powL at h
  obtain ⟨y, h1, h2⟩ := Option.bind_eq_some_iff.mp h
  obtain ⟨s', e⟩ := powG_ok (S := S) n 0 (1, 1) y .un (.int n) h1
  have e0 : ∀ s, forGo (.nm 3) (sSet 2 (eCall M__law_times (eCons (vr 2) (eCons (vr 0) eNil)))) (upto 0 n) [.fz (fr p), .fz (.int n), .fz (.tup [.int 1, .int 1]), .un] s = forGo (.nm 3) (sSet 2 (eCall M__law_times (eCons (vr 2) (eCons (vr 0) eNil)))) (upto 0 n) [.fz (fr p), .fz (.int n), .fz (fr (1, 1)), .un] s := fun s => by rw [fr_mk]
  ((first | refine ok_ent ?_ | refine eq_ent ?_); simp -implicitDefEqProofs [e0, B__law_power, rangeS_1 (i := (n : Int)) (by omega) (by omega), e, lowest_ok h2])
def withinL (many : Nat) (c : Fr) (rounds : Nat) : Option Fr := (powL (les c) rounds).bind fun a => powL (les a) many
theorem within_ok {many rounds : Nat} {c : Fr} (h : withinL many c rounds = some r) (hn : many ≤ 1000) (hr : rounds ≤ 1000) : M__law_within [.fz (.int many), .fz (fr c), .fz (.int rounds)] S = .ok (fr r) S := by
  unfold withinL at h
  obtain ⟨y, h1, h2⟩ := Option.bind_eq_some_iff.mp h
  ((first | refine ok_ent ?_ | refine eq_ent ?_); simp -implicitDefEqProofs [B__law_within, less_ok, power_ok h1 hr, power_ok h2 hn])
/-! the mean -/
def cho : List (List Int) := [[1], [1, 1], [1, 2, 1], [1, 3, 3, 1], [1, 4, 6, 4, 1], [1, 5, 10, 10, 5, 1], [1, 6, 15, 20, 15, 6, 1], [1, 7, 21, 35, 35, 21, 7, 1]]
theorem chosen_ok {S : Sto} : ∀ n : Nat, n < 8 → M__law_chosen [.fz (.int n)] S = .ok (.lst ((cho.getD n []).map .int)) S := by
  intro n hn
  have : n = 0 ∨ n = 1 ∨ n = 2 ∨ n = 3 ∨ n = 4 ∨ n = 5 ∨ n = 6 ∨ n = 7 := by omega
  rcases this with rfl | rfl | rfl | rfl | rfl | rfl | rfl | rfl <;> kernel_rfl
end
end K63

set_option linter.all false
set_option maxRecDepth 100000
namespace K63
open DL
def totG (c : Fr) (parts : Nat) (ways : List Int) (M : List Fr) : Nat → Nat → Fr → Option Fr
  | 0, _, t => some t
  | k + 1, left, t => (powL (les c) left).bind fun a => (powL c (parts - left)).bind fun b => (timL a b).bind fun one => (ways[left]?).bind fun w => (timL (w, 1) one).bind fun t1 => (M[left]?).bind fun m => (timL t1 m).bind fun t2 => (addL t t2).bind fun t' => totG c parts ways M k (left + 1) t'
def meanG (c : Fr) : Nat → Nat → List Fr → Option (List Fr)
  | 0, _, M => some M
  | k + 1, parts, M => (totG c parts (cho.getD parts []) M (parts - 1) 1 (1, 1)).bind fun t => (powL (les c) parts).bind fun o => (timL t ((les o).2, (les o).1)).bind fun nx => meanG c k (parts + 1) (M ++ [nx])
def meanL (many : Nat) (c : Fr) : Option Fr := (meanG c many 1 [(0, 1)]).bind fun M => M[many]?
def body2 : Sv := (sSeq (sSet 7 (eCall M__law_times (eCons (eCall M__law_power (eCons (eCall M__law_less (eCons (vr 1) eNil)) (eCons (vr 6) eNil))) (eCons (eCall M__law_power (eCons (vr 1) (eCons (e2 subS (pk 3) (pk 6)) eNil))) eNil))))
  (sSet 4 (eCall M__law_added (eCons (vr 4) (eCons (eCall M__law_times (eCons (eCall M__law_times (eCons (eTup (eCons (e2 ixS (pk 5) (pk 6)) (eCons (kc (.int 1)) eNil))) (eCons (vr 7) eNil))) (eCons (e2 ixS (pk 2) (pk 6)) eNil))) eNil)))))
abbrev frs (M : List Fr) : D := .lst (M.map fr)
theorem body2_go {c : Fr} {parts : Nat} {ways : List Int} {M : List Fr} {A : D} {s8 : Slot} {S : Sto} (hp : parts ≤ 100) : ∀ (k left : Nat) (t t' : Fr) (s6 s7 : Slot), left + k ≤ parts → totG c parts ways M k left t = some t' →
    ∃ s6' s7', forGo (.nm 6) body2 (upto left k) [.fz A, .fz (fr c), .ow (frs M), .fz (.int parts), .fz (fr t), .fz (.lst (ways.map .int)), s6, s7, s8] S = .ok (.nx [.fz A, .fz (fr c), .ow (frs M), .fz (.int parts), .fz (fr t'), .fz (.lst (ways.map .int)), s6', s7', s8]) S
  | 0, left, t, t', s6, s7, _, h => by cases h; exact ⟨s6, s7, rfl⟩
  | k + 1, left, t, t', s6, s7, hl, h => by
    unfold totG at h
    obtain ⟨a, h1, h⟩ := Option.bind_eq_some_iff.mp h
    obtain ⟨b, h2, h⟩ := Option.bind_eq_some_iff.mp h
    obtain ⟨one, h3, h⟩ := Option.bind_eq_some_iff.mp h
    obtain ⟨w, h4, h⟩ := Option.bind_eq_some_iff.mp h
    obtain ⟨t1, h5, h⟩ := Option.bind_eq_some_iff.mp h
    obtain ⟨m, h6, h⟩ := Option.bind_eq_some_iff.mp h
    obtain ⟨t2, h7, h⟩ := Option.bind_eq_some_iff.mp h
    obtain ⟨t3, h8, h⟩ := Option.bind_eq_some_iff.mp h
    obtain ⟨s6', s7', ih⟩ := body2_go (c := c) (parts := parts) (ways := ways) (M := M) (A := A) (s8 := s8) (S := S) hp k (left + 1) t3 t' (.fz (.int left)) (.fz (fr one)) (by omega) h
    refine ⟨s6', s7', ?_⟩
    rw [upto_succ]
    have e1 : (parts : Int) - left = ((parts - left : Nat) : Int) := by omega
    have e2 : M__law_times [.fz (.tup [.int w, .int 1]), .fz (fr one)] S = .ok (fr t1) S := by
      rw [fr_mk]
      exact times_ok h5
    have b1 : body2 [.fz A, .fz (fr c), .ow (frs M), .fz (.int parts), .fz (fr t), .fz (.lst (ways.map .int)), .fz (.int left), s7, s8] S
        = .ok (.nx [.fz A, .fz (fr c), .ow (frs M), .fz (.int parts), .fz (fr t3), .fz (.lst (ways.map .int)), .fz (.int left), .fz (fr one), s8]) S := by
      unfold body2
      simp -implicitDefEqProofs [less_ok, power_ok h1 (by omega), e1, power_ok h2 (by omega), times_ok h3, h4, e2, h6, times_ok h7, added_ok h8]
    rw [forGo_nx rfl b1]
    rw [Int.natCast_add] at ih
    exact ih
def body1 : Sv := (sSeq (sPar2 false false 4 5 (eTup (eCons (kc (.int 1)) (eCons (kc (.int 1)) eNil))) (eCall M__law_chosen (eCons (vr 3) eNil)))
  (sSeq (sFor (.nm 6) (iRange (eCons (kc (.int 1)) (eCons (vr 3) eNil))) body2)
  (sSeq (sSet 8 (eCall M__law_less (eCons (eCall M__law_power (eCons (eCall M__law_less (eCons (vr 1) eNil)) (eCons (vr 3) eNil))) eNil)))
  (sApp 2 (eCall M__law_times (eCons (vr 4) (eCons (eTup (eCons (e2 ixS (pk 8) (kc (.int 1))) (eCons (e2 ixS (pk 8) (kc (.int 0))) eNil))) eNil)))))))
theorem sApp_at {i : Nat} {f : Ev} {ρ : DL.Env} {S : Sto} : sApp i f ρ S = sAppL i f ρ S ρ[i]? := rfl
theorem sAppL_ow {i : Nat} {f : Ev} {ρ : DL.Env} {S : Sto} {ds : List D} : sAppL i f ρ S (some (.ow (.lst ds))) = (f ρ S).bind (sAppK i ρ ds) := rfl
theorem sAppK_at {i : Nat} {ρ : DL.Env} {S : Sto} {ds : List D} {y : D} (h : ds.length < zLine) : sAppK i ρ ds y S = .ok (.nx (ρ.set i (.ow (.lst (ds ++ [y]))))) S := if_pos h
theorem body1_go {c : Fr} {A : D} {S : Sto} : ∀ (k parts : Nat) (M M' : List Fr) (s3 s4 s5 s6 s7 s8 : Slot), 1 ≤ parts → parts + k ≤ 8 → M.length + k ≤ 100 → meanG c k parts M = some M' →
    ∃ z3 z4 z5 z6 z7 z8, forGo (.nm 3) body1 (upto parts k) [.fz A, .fz (fr c), .ow (frs M), s3, s4, s5, s6, s7, s8] S = .ok (.nx [.fz A, .fz (fr c), .ow (frs M'), z3, z4, z5, z6, z7, z8]) S
  | 0, parts, M, M', s3, s4, s5, s6, s7, s8, _, _, _, h => by cases h; exact ⟨s3, s4, s5, s6, s7, s8, rfl⟩
  | k + 1, parts, M, M', s3, s4, s5, s6, s7, s8, h0, hl, hM, h => by
    unfold meanG at h
    obtain ⟨tt, h1, h⟩ := Option.bind_eq_some_iff.mp h
    obtain ⟨o, h2, h⟩ := Option.bind_eq_some_iff.mp h
    obtain ⟨nx, h3, h⟩ := Option.bind_eq_some_iff.mp h
    have hch := chosen_ok (S := S) parts (by omega)
    generalize cho.getD parts [] = W at h1 hch
    obtain ⟨s6', s7', e⟩ := body2_go (c := c) (parts := parts) (ways := W) (M := M) (A := A) (s8 := s8) (S := S) (by omega) (parts - 1) 1 (1, 1) tt s6 s7 (by omega) h1
    rw [fr_def (1, 1), show ((1 : Nat) : Int) = 1 from rfl] at e
    obtain ⟨z3, z4, z5, z6, z7, z8, ih⟩ := body1_go (c := c) (A := A) (S := S) k (parts + 1) (M ++ [nx]) M' (.fz (.int parts)) (.fz (fr tt)) (.fz (.lst (W.map .int))) s6' s7' (.fz (fr (les o))) (by omega) (by omega) (by simp; omega) h
    refine ⟨z3, z4, z5, z6, z7, z8, ?_⟩
    rw [upto_succ]
    have e1 : ((parts : Int) - 1).toNat = parts - 1 := by omega
    have e3 : M__law_times [.fz (fr tt), .fz (.tup [.int (les o).2, .int (les o).1])] S = .ok (fr nx) S := by
      rw [fr_mk]
      exact times_ok h3
    have hz : (M.map fr).length < zLine := by simp [zLine]; omega
    have b1 : body1 [.fz A, .fz (fr c), .ow (frs M), .fz (.int parts), s4, s5, s6, s7, s8] S
        = .ok (.nx [.fz A, .fz (fr c), .ow (frs (M ++ [nx])), .fz (.int parts), .fz (fr tt), .fz (.lst (W.map .int)), s6', s7', .fz (fr (les o))]) S := by
      unfold body1
      generalize body2 = bb at e ⊢
      simp -implicitDefEqProofs [hch, rangeS_2 (i := 1) (j := (parts : Int)) (by omega) (by omega) (by omega) (by omega), e1, e, less_ok, power_ok h2 (by omega), sApp_at, sAppL_ow, e3, sAppK_at hz]
    rw [forGo_nx rfl b1]
    rw [Int.natCast_add] at ih
    exact ih
theorem mean_ok {c r : Fr} {many : Nat} {S : Sto} (h : meanL many c = some r) (hm : many ≤ 7) : M__law_mean [.fz (.int many), .fz (fr c)] S = .ok (fr r) S := by
  unfold meanL at h
  obtain ⟨M, h1, h2⟩ := Option.bind_eq_some_iff.mp h
  obtain ⟨z3, z4, z5, z6, z7, z8, e⟩ := body1_go (c := c) (A := .int many) (S := S) many 1 [(0, 1)] M .un .un .un .un .un .un (by omega) (by omega) (by simp; omega) h1
  rw [show frs [(0, 1)] = .lst [.tup [.int 0, .int 1]] by unfold frs; rw [List.map_cons, fr_def]; rfl, show ((1 : Nat) : Int) = 1 from rfl] at e
  have e1 : ((many : Int) + 1 - 1).toNat = many := by omega
  have hB : B__law_mean = (sSeq (sOwn 2 (eLst (eCons (eTup (eCons (kc (.int 0)) (eCons (kc (.int 1)) eNil))) eNil)))
    (sSeq (sFor (.nm 3) (iRange (eCons (kc (.int 1)) (eCons (e2 addS (pk 0) (kc (.int 1))) eNil))) body1) (sRet (e2 ixS (pk 2) (pk 0))))) := rfl
  rw [show M__law_mean = fnM 7 B__law_mean from rfl, hB]
  generalize body1 = bb at e ⊢
  ((first | refine ok_ent ?_ | refine eq_ent ?_); simp -implicitDefEqProofs [rangeS_2 (i := 1) (j := (many : Int) + 1) (by omega) (by omega) (by omega) (by omega), e1, e, h2])
def onL (many : Nat) (c : Fr) : Option Fr := (meanL many c).bind fun m => addL m (c.2 - c.1, c.1)
theorem on_ok {c r : Fr} {many : Nat} {S : Sto} (h : onL many c = some r) (hm : many ≤ 7) : M__law_mean_on [.fz (.int many), .fz (fr c)] S = .ok (fr r) S := by
  unfold onL at h
  obtain ⟨m, h1, h2⟩ := Option.bind_eq_some_iff.mp h
  have e3 : M__law_added [.fz (fr m), .fz (.tup [.int (c.2 - c.1), .int c.1])] S = .ok (fr r) S := by
    rw [fr_mk]
    exact added_ok h2
  ((first | refine ok_ent ?_ | refine eq_ent ?_); simp -implicitDefEqProofs [B__law_mean_on, mean_ok h1 hm, e3])
end K63

set_option linter.all false
set_option maxRecDepth 100000
namespace K63
open DL
/-! the program's own -/
def small (a : Int) : Bool := decide (a.natAbs.log2 < 60)
theorem small_ok {a : Int} (h : small a = true) : a.natAbs < 2 ^ 60 := by
  have h : a.natAbs.log2 < 60 := by simpa [small] using h
  exact Nat.lt_of_lt_of_le Nat.lt_log2_self (Nat.pow_le_pow_right (by omega) h)
theorem mulR {a b : Int} {S : Sto} (h : small b = true) : mulS S (.int a) (.int b) = some (.int (a * b)) := mulS_int (by
  have := small_ok h
  simp only [mulOk, Bool.or_eq_true, Bool.and_eq_true, decide_eq_true_eq]
  left; right; omega)
theorem pow_go {a : Int} {S : Sto} (ha : small a = true) : ∀ (n : Nat) (i x : Int) (s : Slot) (B : D), ∃ s', forGo (.nm 3) (sSet 2 (e2 mulS (pk 2) (pk 0))) (upto i n) [.fz (.int a), .fz B, .fz (.int x), s] S = .ok (.nx [.fz (.int a), .fz B, .fz (.int (x * a ^ n)), s']) S
  | 0, i, x, s, B => ⟨s, by simp [upto_zero, forGo_nil]⟩
  | n + 1, i, x, s, B => by
    obtain ⟨s', ih⟩ := pow_go ha n (i + 1) (x * a) (.fz (.int i)) B
    refine ⟨s', ?_⟩
    have b1 : (sSet 2 (e2 mulS (pk 2) (pk 0))) [.fz (.int a), .fz B, .fz (.int x), .fz (.int i)] S = .ok (.nx [.fz (.int a), .fz B, .fz (.int (x * a)), .fz (.int i)]) S := by
      simp -implicitDefEqProofs [mulR ha]
    rw [upto_succ, forGo_nx rfl b1, ih, Int.pow_succ, Int.mul_assoc, Int.mul_comm a]
theorem prog_pow {a : Int} {n : Nat} {S : Sto} (ha : small a = true) (hn : n ≤ 1000) : M_power [.fz (.int a), .fz (.int n)] S = .ok (.int (a ^ n)) S := by
  obtain ⟨s', e⟩ := pow_go (S := S) ha n 0 1 .un (.int n)
  rw [Int.one_mul] at e
  ((first | refine ok_ent ?_ | refine eq_ent ?_); simp -implicitDefEqProofs [B_power, rangeS_1 (i := (n : Int)) (by omega) (by omega), e])
@[irreducible] def pw (p : Fr) (n : Nat) : Fr := (p.1 ^ n, p.2 ^ n)
theorem pw_1 (p : Fr) (n : Nat) : (pw p n).1 = p.1 ^ n := by unfold pw; rfl
theorem pw_2 (p : Fr) (n : Nat) : (pw p n).2 = p.2 ^ n := by unfold pw; rfl
def sm (p : Fr) : Bool := small p.1 && small p.2
theorem to_power_ok {p : Fr} {n : Nat} {S : Sto} (hp : sm p = true) (hn : n ≤ 1000) : M_to_power [.fz (fr p), .fz (.int n)] S = .ok (fr (pw p n)) S := by
  have hp : small p.1 = true ∧ small p.2 = true := by simpa [sm] using hp
  ((first | refine ok_ent ?_ | refine eq_ent ?_); simp -implicitDefEqProofs [B_to_power, prog_pow hp.1 hn, prog_pow hp.2 hn, fr_def (pw p n), pw_1, pw_2])
theorem less1_ok {p : Fr} {S : Sto} : M_less_from_one [.fz (fr p)] S = .ok (fr (les p)) S := by
  ((first | refine ok_ent ?_ | refine eq_ent ?_); simp -implicitDefEqProofs [B_less_from_one, fr_def, les_1, les_2])
def lowP (a b : Int) : Option Fr := if b ≠ 0 ∧ b.natAbs.log2 < 1000 then some (low a b) else none
theorem lowP_ok {a b : Int} {r : Fr} {S : Sto} (h : lowP a b = some r) : M_lowest [.fz (.int a), .fz (.int b)] S = .ok (fr r) S := by
  unfold lowP at h
  split at h
  · rename_i hc
    obtain ⟨h1, h2⟩ := hc
    cases h
    have hb : b.natAbs ≠ 0 := by omega
    have hg : 0 < Nat.gcd a.natAbs b.natAbs := Nat.gcd_pos_of_pos_right _ (by omega)
    have hgm : Nat.gcd a.natAbs b.natAbs ≤ b.natAbs := Nat.le_of_dvd (by omega) (Nat.gcd_dvd_right _ _)
    have hm : b.natAbs < 2 ^ 1000 := Nat.lt_of_lt_of_le Nat.lt_log2_self (Nat.pow_le_pow_right (by omega) h2)
    have hl : (Nat.gcd a.natAbs b.natAbs).log2 < 1000 := (Nat.log2_lt (by omega)).mpr (by omega)
    have f1 : ∀ x : Int, fdivS S (.int x) (.int (Nat.gcd a.natAbs b.natAbs : Nat)) = some (.int (x / (Nat.gcd a.natAbs b.natAbs : Nat))) := fun x => if_pos ⟨by omega, by simp only [Int.natAbs_natCast]; omega⟩
    have f2 : gcdC S [.int a, .int b] = some (.int (Nat.gcd a.natAbs b.natAbs : Nat)) := rfl
    unfold low
    generalize Nat.gcd a.natAbs b.natAbs = g at f1 f2 ⊢
    ((first | refine ok_ent ?_ | refine eq_ent ?_); simp -implicitDefEqProofs [B_lowest, f2, f1, fr_def])
  · cases h
def plusP (p q : Fr) : Option Fr := if (ok1 p && ok1 q) = true then lowP (p.1 * q.2 + q.1 * p.2) (p.2 * q.2) else none
def timP (p q : Fr) : Option Fr := if (ok1 p && ok1 q) = true then lowP (p.1 * q.1) (p.2 * q.2) else none
section
variable {p q r c : Fr} {S : Sto} {n : Nat}
theorem plus_ok (h : plusP p q = some r) : M_plus [.fz (fr p), .fz (fr q)] S = .ok (fr r) S := by
  unfold plusP at h
  split at h
  · rename_i hc
    rw [Bool.and_eq_true] at hc
    obtain ⟨a1, a2⟩ := ok1_and hc.1
    obtain ⟨b1, b2⟩ := ok1_and hc.2
    ((first | refine ok_ent ?_ | refine eq_ent ?_); simp -implicitDefEqProofs [B_plus, mul_ok a1 b2, mul_ok b1 a2, mul_ok a2 b2, lowP_ok h])
  · cases h
theorem timP_ok (h : timP p q = some r) : M_times [.fz (fr p), .fz (fr q)] S = .ok (fr r) S := by
  unfold timP at h
  split at h
  · rename_i hc
    rw [Bool.and_eq_true] at hc
    obtain ⟨a1, a2⟩ := ok1_and hc.1
    obtain ⟨b1, b2⟩ := ok1_and hc.2
    ((first | refine ok_ent ?_ | refine eq_ent ?_); simp -implicitDefEqProofs [B_times, mul_ok a1 b1, mul_ok a2 b2, lowP_ok h])
  · cases h
def withinP (many : Nat) (c : Fr) (rounds : Nat) : Option Fr := if (sm (les c) && sm (les (pw (les c) rounds))) = true then lowP (pw (les (pw (les c) rounds)) many).1 (pw (les (pw (les c) rounds)) many).2 else none
theorem withinP_ok {many rounds : Nat} (h : withinP many c rounds = some r) (hn : many ≤ 1000) (hr : rounds ≤ 1000) : M_within_by [.fz (.int many), .fz (fr c), .fz (.int rounds)] S = .ok (fr r) S := by
  unfold withinP at h
  split at h
  · rename_i hc
    rw [Bool.and_eq_true] at hc
    have t2 := to_power_ok (S := S) hc.2 hn
    generalize pw (les (pw (les c) rounds)) many = z at h t2
    rw [fr_def z] at t2
    ((first | refine ok_ent ?_ | refine eq_ent ?_); simp -implicitDefEqProofs [B_within_by, less1_ok, to_power_ok hc.1 hr, t2, lowP_ok h])
  · cases h
theorem whole_int {i : Int} {S : Sto} : M_is_whole [.fz (.int i)] S = .ok (.bl true) S := by
  ((first | refine ok_ent ?_ | refine eq_ent ?_); simp -implicitDefEqProofs [B_is_whole])
theorem between_int {i a b : Int} {S : Sto} : M_is_between [.fz (.int i), .fz (.int a), .fz (.int b)] S = .ok (.bl (decide (a ≤ i) && decide (i ≤ b))) S := by
  ((first | refine ok_ent ?_ | refine eq_ent ?_); simp -implicitDefEqProofs [B_is_between, whole_int])
  by_cases h : a ≤ i <;> simp -implicitDefEqProofs [h]
theorem upto_int {i b : Int} {S : Sto} : M_is_up_to [.fz (.int i), .fz (.int b)] S = .ok (.bl (decide (0 ≤ i) && decide (i ≤ b))) S := by
  ((first | refine ok_ent ?_ | refine eq_ent ?_); simp -implicitDefEqProofs [B_is_up_to, between_int])
theorem number_ok {i : Int} {S : Sto} (h : 0 ≤ i) (h2 : i ≤ 99) : M_check_number [.fz (.int i)] S = .ok .non S := by
  ((first | refine ok_ent ?_ | refine eq_ent ?_); simp -implicitDefEqProofs [B_check_number, upto_int, h, h2])
theorem many_ok {i : Int} {S : Sto} (h : 1 ≤ i) (h2 : i ≤ 15) : M_check_many [.fz (.int i)] S = .ok .non S := by
  ((first | refine ok_ent ?_ | refine eq_ent ?_); simp -implicitDefEqProofs [B_check_many, between_int, h, h2])
theorem pair_fr : M_is_pair [.fz (fr p)] S = .ok (.bl true) S := by
  have t : M_is_tuple_of [.fz (fr p), .fz (.int 2)] S = .ok (.bl true) S := by
    rw [fr_def]
    ((first | refine ok_ent ?_ | refine eq_ent ?_); simp -implicitDefEqProofs [B_is_tuple_of])
  ((first | refine ok_ent ?_ | refine eq_ent ?_); simp -implicitDefEqProofs [B_is_pair, t])
def isC (c : Fr) : Prop := 0 < c.1 ∧ c.1 ≤ c.2 ∧ Nat.gcd c.1.natAbs c.2.natAbs = 1
theorem chance_ok (h : isC c) : M_is_chance [.fz (fr c)] S = .ok (.bl true) S := by
  obtain ⟨h1, h2, h3⟩ := h
  have f2 : gcdC S [.int c.1, .int c.2] = some (.int 1) := by
    show some (D.int (Nat.gcd c.1.natAbs c.2.natAbs : Nat)) = _
    rw [h3]
    rfl
  ((first | refine ok_ent ?_ | refine eq_ent ?_); simp -implicitDefEqProofs [B_is_chance, pair_fr, whole_int, f2, h1, h2])
theorem comes_ok (h : isC c) : M_check_comes [.fz (fr c)] S = .ok .non S := by
  ((first | refine ok_ent ?_ | refine eq_ent ?_); simp -implicitDefEqProofs [B_check_comes, chance_ok h])
theorem both_ok {many : Int} (h : isC c) (h1 : 1 ≤ many) (h2 : many ≤ 15) : M_check_both [.fz (.int many), .fz (fr c)] S = .ok .non S := by
  ((first | refine ok_ent ?_ | refine eq_ent ?_); simp -implicitDefEqProofs [B_check_both, comes_ok h, many_ok h1 h2])
theorem told_within_ok {many rounds : Nat} (hc : isC c) (h : withinP many c rounds = some r) (hn : 1 ≤ many) (hn2 : many ≤ 15) (hr : rounds ≤ 99) : M_told_within [.fz (.int many), .fz (fr c), .fz (.int rounds)] S = .ok (fr r) S := by
  ((first | refine ok_ent ?_ | refine eq_ent ?_); simp -implicitDefEqProofs [B_told_within, both_ok (many := (many : Int)) hc (by omega) (by omega), number_ok (i := (rounds : Int)) (by omega) (by omega), withinP_ok h (by omega) (by omega)])
end
/-! ways, means -/
def waysG (many : Nat) : Nat → Nat → Int → Option Int
  | 0, _, x => some x
  | k + 1, at_, x => if x.natAbs.log2 < 60 then waysG many k (at_ + 1) (x * ((many : Int) - at_) / ((at_ : Int) + 1)) else none
theorem ways_go {many : Nat} {B : D} {S : Sto} (hm : many ≤ 100) : ∀ (k i : Nat) (x y : Int) (s : Slot), i + k ≤ 100 → waysG many k i x = some y → ∃ s', forGo (.nm 3) (sSet 2 (e2 fdivS (e2 mulS (pk 2) (e2 subS (pk 0) (pk 3))) (e2 addS (pk 3) (kc (.int 1))))) (upto i k) [.fz (.int many), .fz B, .fz (.int x), s] S = .ok (.nx [.fz (.int many), .fz B, .fz (.int y), s']) S
  | 0, i, x, y, s, _, h => by cases h; exact ⟨s, rfl⟩
  | k + 1, i, x, y, s, hl, h => by
    unfold waysG at h
    split at h
    · rename_i hx
      obtain ⟨s', ih⟩ := ways_go (B := B) (S := S) hm k (i + 1) _ y (.fz (.int i)) (by omega) h
      refine ⟨s', ?_⟩
      have hs : small x = true := by simpa [small] using hx
      have hx2 := small_ok hs
      have hm1 : mulS S (.int x) (.int ((many : Int) - i)) = some (.int (x * ((many : Int) - i))) := mulS_int (by
        simp only [mulOk, Bool.or_eq_true, Bool.and_eq_true, decide_eq_true_eq]
        left; left; omega)
      have b1 : (sSet 2 (e2 fdivS (e2 mulS (pk 2) (e2 subS (pk 0) (pk 3))) (e2 addS (pk 3) (kc (.int 1))))) [.fz (.int many), .fz B, .fz (.int x), .fz (.int i)] S = .ok (.nx [.fz (.int many), .fz B, .fz (.int (x * ((many : Int) - i) / ((i : Int) + 1))), .fz (.int i)]) S := by
        simp -implicitDefEqProofs [hm1, fdivS_int (j := (i : Int) + 1) (by omega) (by omega)]
      rw [upto_succ, forGo_nx rfl b1]
      rw [Int.natCast_add] at ih
      exact ih
    · cases h
theorem ways_ok {many some_ : Nat} {y : Int} {S : Sto} (h : waysG many some_ 0 1 = some y) (hm : many ≤ 50) (hs : some_ ≤ 50) : M_ways_of [.fz (.int many), .fz (.int some_)] S = .ok (.int y) S := by
  obtain ⟨s', e⟩ := ways_go (S := S) (B := .int some_) (by omega) some_ 0 1 y .un (by omega) h
  rw [show ((0 : Nat) : Int) = 0 from rfl] at e
  ((first | refine ok_ent ?_ | refine eq_ent ?_); simp -implicitDefEqProofs [B_ways_of, rangeS_1 (i := (some_ : Int)) (by omega) (by omega), e])
def sgn (n : Nat) : Int := if n % 2 = 1 then 1 else -1
def toldG (c : Fr) (many : Nat) : Nat → Nat → Fr → Option Fr
  | 0, _, t => some t
  | k + 1, n, t => (waysG many n 0 1).bind fun y => if (sm (les c) && small (les (pw (les c) n)).2) = true then (plusP t (sgn n * y * (les (pw (les c) n)).2, (les (pw (les c) n)).1)).bind fun t' => toldG c many k (n + 1) t' else none
def toldP (many : Nat) (c : Fr) : Option Fr := toldG c many many 1 (0, 1)
def bodyT : Sv := (sSeq (sSet 4 (eCall M_less_from_one (eCons (eCall M_to_power (eCons (eCall M_less_from_one (eCons (vr 1) eNil)) (eCons (vr 3) eNil))) eNil)))
  (sSeq (sSet 5 (eIf (tB (e2 eqS (e2 modS (pk 3) (kc (.int 2))) (kc (.int 1)))) (kc (.int 1)) (e1 negS (kc (.int 1)))))
  (sSet 2 (eCall M_plus (eCons (vr 2) (eCons (eTup (eCons (e2 mulS (e2 mulS (pk 5) (eCall M_ways_of (eCons (vr 0) (eCons (vr 3) eNil)))) (e2 ixS (pk 4) (kc (.int 1)))) (eCons (e2 ixS (pk 4) (kc (.int 0))) eNil))) eNil))))))
theorem told_go {c : Fr} {many : Nat} {S : Sto} (hm : many ≤ 50) : ∀ (k n : Nat) (t r : Fr) (s3 s4 s5 : Slot), n + k ≤ 50 → toldG c many k n t = some r → ∃ z3 z4 z5, forGo (.nm 3) bodyT (upto n k) [.fz (.int many), .fz (fr c), .fz (fr t), s3, s4, s5] S = .ok (.nx [.fz (.int many), .fz (fr c), .fz (fr r), z3, z4, z5]) S
  | 0, n, t, r, s3, s4, s5, _, h => by cases h; exact ⟨s3, s4, s5, rfl⟩
  | k + 1, n, t, r, s3, s4, s5, hl, h => by
    unfold toldG at h
    obtain ⟨y, h1, h⟩ := Option.bind_eq_some_iff.mp h
    split at h
    · rename_i hc
      rw [Bool.and_eq_true] at hc
      obtain ⟨t', h2, h⟩ := Option.bind_eq_some_iff.mp h
      obtain ⟨z3, z4, z5, ih⟩ := told_go (S := S) hm k (n + 1) t' r (.fz (.int n)) (.fz (fr (les (pw (les c) n)))) (.fz (.int (sgn n))) (by omega) h
      refine ⟨z3, z4, z5, ?_⟩
      have hs : mulS S (.int (sgn n)) (.int y) = some (.int (sgn n * y)) := mulS_int (by
        simp only [mulOk, Bool.or_eq_true, Bool.and_eq_true, decide_eq_true_eq]
        left; left; unfold sgn; split <;> omega)
      have e3 : M_plus [.fz (fr t), .fz (.tup [.int (sgn n * y * (les (pw (les c) n)).2), .int (les (pw (les c) n)).1])] S = .ok (fr t') S := by
        rw [fr_mk]
        exact plus_ok h2
      have hn : ((n : Int) % 2 = 1) ↔ n % 2 = 1 := by omega
      have b1 : bodyT [.fz (.int many), .fz (fr c), .fz (fr t), .fz (.int n), s4, s5] S = .ok (.nx [.fz (.int many), .fz (fr c), .fz (fr t'), .fz (.int n), .fz (fr (les (pw (les c) n))), .fz (.int (sgn n))]) S := by
        unfold bodyT
        by_cases h5 : n % 2 = 1
        · have h6 : (n : Int) % 2 = 1 := by omega
          have e5 : sgn n = 1 := by unfold sgn; rw [if_pos h5]
          rw [e5] at hs e3 ⊢
          simp only [Int.one_mul] at hs e3
          simp -implicitDefEqProofs [less1_ok, to_power_ok hc.1 (show n ≤ 1000 by omega), h6, ways_ok h1 hm (by omega), hs, mulR hc.2, e3]
        · have h6 : ¬ (n : Int) % 2 = 1 := by omega
          have e5 : sgn n = -1 := by unfold sgn; rw [if_neg h5]
          rw [e5] at hs e3 ⊢
          rw [show (-1 : Int) * y = -y by omega] at hs e3
          simp -implicitDefEqProofs [less1_ok, to_power_ok hc.1 (show n ≤ 1000 by omega), h6, ways_ok h1 hm (by omega), hs, mulR hc.2, e3]
      rw [upto_succ, forGo_nx rfl b1]
      rw [Int.natCast_add] at ih
      exact ih
    · cases h
theorem told_ok {c r : Fr} {many : Nat} {S : Sto} (h : toldP many c = some r) (hm : many ≤ 20) : M_told_by [.fz (.int many), .fz (fr c)] S = .ok (fr r) S := by
  unfold toldP at h
  obtain ⟨z3, z4, z5, e⟩ := told_go (S := S) (by omega) many 1 (0, 1) r .un .un .un (by omega) h
  rw [fr_def (0, 1), show ((1 : Nat) : Int) = 1 from rfl] at e
  have e1 : ((many : Int) + 1 - 1).toNat = many := by omega
  have hB : B_told_by = (sSeq (sSet 2 (eTup (eCons (kc (.int 0)) (eCons (kc (.int 1)) eNil)))) (sSeq (sFor (.nm 3) (iRange (eCons (kc (.int 1)) (eCons (e2 addS (pk 0) (kc (.int 1))) eNil))) bodyT) (sRet (vr 2)))) := rfl
  rw [show M_told_by = fnM 4 B_told_by from rfl, hB]
  generalize bodyT = bb at e ⊢
  ((first | refine ok_ent ?_ | refine eq_ent ?_); simp -implicitDefEqProofs [rangeS_2 (i := 1) (j := (many : Int) + 1) (by omega) (by omega) (by omega) (by omega), e1, e])
theorem mean_told_ok {c r : Fr} {many : Nat} {S : Sto} (hc : isC c) (h : toldP many c = some r) (h1 : 1 ≤ many) (hm : many ≤ 15) : M_mean_told [.fz (.int many), .fz (fr c)] S = .ok (fr r) S := by
  ((first | refine ok_ent ?_ | refine eq_ent ?_); simp -implicitDefEqProofs [B_mean_told, both_ok (many := (many : Int)) hc (by omega) (by omega), told_ok h (by omega)])
def onP (many : Nat) (c : Fr) : Option Fr := (toldP many c).bind fun m => plusP m (c.2 - c.1, c.1)
theorem on_by_ok {c r : Fr} {many : Nat} {S : Sto} (h : onP many c = some r) (hm : many ≤ 15) : M_on_by [.fz (.int many), .fz (fr c)] S = .ok (fr r) S := by
  unfold onP at h
  obtain ⟨m, h1, h2⟩ := Option.bind_eq_some_iff.mp h
  have e3 : M_plus [.fz (fr m), .fz (.tup [.int (c.2 - c.1), .int c.1])] S = .ok (fr r) S := by
    rw [fr_mk]
    exact plus_ok h2
  ((first | refine ok_ent ?_ | refine eq_ent ?_); simp -implicitDefEqProofs [B_on_by, told_ok h1 (by omega), e3])
theorem mean_on_ok {c r : Fr} {many : Nat} {S : Sto} (hc : isC c) (h : onP many c = some r) (h1 : 1 ≤ many) (hm : many ≤ 15) : M_mean_on [.fz (.int many), .fz (fr c)] S = .ok (fr r) S := by
  ((first | refine ok_ent ?_ | refine eq_ent ?_); simp -implicitDefEqProofs [B_mean_on, both_ok (many := (many : Int)) hc (by omega) (by omega), on_by_ok h hm])
end K63

set_option linter.all false
set_option maxRecDepth 100000
namespace K63
open DL
/-! the finite part -/
def cs : List Fr := [(1, 1), (1, 2), (1, 3), (2, 3), (1, 4), (3, 4), (1, 5), (2, 5), (3, 5), (4, 5), (1, 6), (5, 6), (1, 7), (2, 7), (3, 7), (4, 7), (5, 7), (6, 7)]
def sumG (few : Nat) (c : Fr) : Nat → Nat → Fr → Option Fr
  | 0, _, t => some t
  | k + 1, n, t => (withinP few c n).bind fun w => (addL t (les w)).bind fun t' => sumG few c k (n + 1) t'
def need (b : Bool) : Option Unit := if b = true then some () else none
def isCb (c : Fr) : Bool := decide (0 < c.1) && decide (c.1 ≤ c.2) && decide (Nat.gcd c.1.natAbs c.2.natAbs = 1)
def chk2 (many : Nat) (c : Fr) : Option Unit :=
  (meanL many c).bind fun due => (onL many c).bind fun on => (toldP many c).bind fun a => (onP many c).bind fun b => (need (a == due && b == on)).bind fun _ =>
  (toldP (many + 1) c).bind fun more => (lowL (c.1 + c.2) (2 * c.2)).bind fun c2 => (need (isCb c2)).bind fun _ => (toldP many c2).bind fun less =>
  (need (ok1 more && ok1 due && ok1 less && !decide (more.1 * due.2 < due.1 * more.2) && !decide (due.1 * less.2 < less.1 * due.2))).bind fun _ =>
  (sumG (min many 2) c 12 0 (0, 1)).bind fun total => (toldP (min many 2) c).bind fun whole =>
  (need (ok1 total && ok1 whole && !decide (whole.1 * total.2 < total.1 * whole.2) && (!(c == (1, 1)) || total == whole))).bind fun _ =>
  (withinL (min many 2) c 12).bind fun w12 => (timL (les w12) whole).bind fun rest =>
  need (decide (rest.1.natAbs.log2 < 300) && decide (rest.2.natAbs.log2 < 300) && decide (total.1.natAbs.log2 < 300) && decide (total.2.natAbs.log2 < 300) && decide (whole.1.natAbs.log2 < 300) && decide (whole.2.natAbs.log2 < 300)
    && !decide ((total.1 * rest.2 + rest.1 * total.2) * whole.2 < whole.1 * total.2 * rest.2))
theorem chk2_all : ((List.range 7).all fun m => cs.all fun c => (chk2 (m + 1) c).isSome) = true := by decide +kernel
end K63

set_option linter.all false
set_option maxRecDepth 100000
namespace K63
open DL
/-! drawing -/
def Wst (c : Cell) : Prop := ∃ b s k : Int, c = .lst [.int b, .int s, .int k] ∧ 0 ≤ b ∧ 0 ≤ s ∧ s < 2147483587 ∧ 0 ≤ k
theorem ok_draw {c : Cell} {T : Sto} {m : Int} (h : Wst c) (hm : 0 < m) (hm2 : m < 1073741824) :
    Ok (M__law_draw [.fz (.obj 0), .fz (.int m)] (c :: T)) fun d S' => ∃ (f : Nat) (c' : Cell), d = .int f ∧ (f : Int) < m ∧ S' = c' :: T ∧ Wst c' := by
  obtain ⟨b, s, k, rfl, hb, hs, hs2, hk⟩ := h
  have nat : ∀ {x : Int}, 0 ≤ x → ∃ f : Nat, x = f := fun h => Int.eq_ofNat_of_zero_le h
  refine ok_gen fun _ q => ?_
  by_cases h0 : 0 < b
  · obtain ⟨f, hf⟩ := nat (Int.emod_nonneg b (show m ≠ 0 by omega))
    have hf2 := Int.emod_lt_of_pos b hm
    ((first | refine ok_ent ?_ | refine eq_ent ?_); simp -implicitDefEqProofs [B__law_draw, h0, divmod_int hm hm2])
    rw [hf] at hf2 ⊢
    exact ok_ok (q _ _ ⟨f, _, rfl, hf2, rfl, _, _, _, rfl, Int.ediv_nonneg hb (by omega), hs, hs2, hk⟩)
  · have m1 : mulS [.lst [.int b, .int s, .int (k + 1)]] (.int s) (.int 40009) = some (.int (s * 40009)) := mulS_int (by simp [mulOk])
    have m0 : ∀ S : Sto, mulS S (.int s) (.int 40009) = some (.int (s * 40009)) := fun S => mulS_int (by simp [mulOk])
    have m2 : ∀ S : Sto, mulS S (.int 15013) (.int (k + 1)) = some (.int (15013 * (k + 1))) := fun S => mulS_int (by simp [mulOk])
    have x0 : ∀ x : Int, 0 ≤ x % 2147483587 ∧ x % 2147483587 < 2147483587 := fun x => ⟨Int.emod_nonneg _ (by omega), Int.emod_lt_of_pos _ (by omega)⟩
    obtain ⟨y, hy⟩ : ∃ y, y = (s * 40009 + 15013 * (k + 1) + 3) % 2147483587 := ⟨_, rfl⟩
    have hy0 : 0 ≤ y ∧ y < 2147483587 := by rw [hy]; exact x0 _
    have m3 : ∀ S : Sto, mulS S (.int y) (.int (y % 5003 + 20011)) = some (.int (y * (y % 5003 + 20011))) := fun S => mulS_int (by simp [mulOk]; omega)
    obtain ⟨z, hz⟩ : ∃ z, z = (y * (y % 5003 + 20011) + (k + 1)) % 2147483587 := ⟨_, rfl⟩
    have hz0 : 0 ≤ z ∧ z < 2147483587 := by rw [hz]; exact x0 _
    obtain ⟨f, hf⟩ := nat (Int.emod_nonneg (z / 1049) (show m ≠ 0 by omega))
    have hf2 := Int.emod_lt_of_pos (z / 1049) hm
    ((first | refine ok_ent ?_ | refine eq_ent ?_); simp -implicitDefEqProofs [B__law_draw, h0, m0, m2, hm, ← hy, m3, ← hz])
    rw [hf] at hf2 ⊢
    exact ok_ok (q _ _ ⟨f, _, rfl, hf2, rfl, _, _, _, rfl, hb, hz0.1, hz0.2, by omega⟩)
theorem ok_of_str {c : Cell} {T : Sto} {x : List Nat} (h : Wst c) (h0 : x ≠ []) (h1 : x.length < 1073741824) :
    Ok (M__law_of [.fz (.obj 0), .fz (.str x)] (c :: T)) fun d S' => ∃ k c', k ∈ x ∧ d = .str [k] ∧ S' = c' :: T ∧ Wst c' := by
  have hl : 0 < x.length := List.length_pos_iff.mpr h0
  refine ok_gen fun _ q => ?_
  ((first | refine ok_ent ?_ | refine eq_ent ?_); simp -implicitDefEqProofs [B__law_of])
  refine ok_bind (ok_draw h (by omega) (by omega)) ?_
  rintro _ _ ⟨k, c', rfl, hf2, rfl, n⟩
  simp -implicitDefEqProofs [List.getElem?_eq_getElem (show k < x.length by omega)]
  exact ok_ok (q _ _ ⟨_, _, List.getElem_mem _, rfl, rfl, n⟩)
theorem comes_all : ((List.range 7).all fun b => (List.range (b + 1)).all fun a => match lowL ((a : Int) + 1) ((b : Int) + 1) with
    | some r => cs.contains r
    | none => false) = true := by decide +kernel
theorem ok_comes {c : Cell} {T : Sto} (h : Wst c) : Ok (M__law_comes [.fz (.obj 0)] (c :: T)) fun d S' => ∃ (r : Fr) (c' : Cell), r ∈ cs ∧ d = fr r ∧ S' = c' :: T ∧ Wst c' := by
  refine ok_gen fun _ q => ?_
  ((first | refine ok_ent ?_ | refine eq_ent ?_); simp -implicitDefEqProofs [B__law_comes])
  refine ok_bind (ok_draw h (by omega) (by omega)) ?_
  rintro _ _ ⟨b, c1, rfl, hb, rfl, n1⟩
  simp -implicitDefEqProofs []
  refine ok_bind (ok_draw n1 (by omega) (by omega)) ?_
  rintro _ _ ⟨a, c2, rfl, ha, rfl, n2⟩
  have := List.all_eq_true.mp comes_all b (List.mem_range.mpr (by omega))
  have := List.all_eq_true.mp this a (List.mem_range.mpr (by omega))
  split at this
  · rename_i r hr
    rw [Int.add_comm, Int.add_comm (b : Int)] at hr
    simp -implicitDefEqProofs [lowest_ok hr]
    exact ok_ok (q _ _ ⟨r, c2, by simpa using this, rfl, rfl, n2⟩)
  · cases this
theorem bind_draw {β : Type} {f : D → Sto → Res β} {R : β → Sto → Prop} {c : Cell} {T : Sto} {m : Int} (h : Wst c) (hm : 0 < m) (hm2 : m < 1073741824) (k : ∀ (v : Nat) (c' : Cell), (v : Int) < m → Wst c' → Ok (f (.int v) (c' :: T)) R) : Ok ((M__law_draw [.fz (.obj 0), .fz (.int m)] (c :: T)).bind f) R :=
  ok_bind (ok_draw h hm hm2) (by rintro _ _ ⟨v, c', rfl, h1, rfl, h2⟩; exact k v c' h1 h2)
theorem bind_comes {β : Type} {f : D → Sto → Res β} {R : β → Sto → Prop} {c : Cell} {T : Sto} (h : Wst c) (k : ∀ (r : Fr) (c' : Cell), r ∈ cs → Wst c' → Ok (f (fr r) (c' :: T)) R) : Ok ((M__law_comes [.fz (.obj 0)] (c :: T)).bind f) R :=
  ok_bind (ok_comes h) (by rintro _ _ ⟨v, c', h1, rfl, rfl, h2⟩; exact k v c' h1 h2)
theorem cs_isC {c : Fr} (h : c ∈ cs) : isC c := by
  have : (cs.all isCb) = true := by decide +kernel
  have := List.all_eq_true.mp this c h
  simpa [isCb, isC, and_assoc] using this
/-! sameness -/
def dat : Nat → D → Bool
  | _, .int _ => true
  | n + 1, .tup ds => decide (ds.length ≤ 1000) && ds.all (dat n)
  | _, _ => false
theorem same_ok (S : Sto) : ∀ (n : Nat) (d : D), dat n d = true → M__law_same (n + 1) [.fz d, .fz d] S = .ok (.bl true) S := by
  intro n
  induction n with
  | zero =>
    intro d h
    cases d <;> simp [dat] at h <;> ((first | refine ok_ent ?_ | refine eq_ent ?_); simp -implicitDefEqProofs [B__law_same, isNonOp, isNonS])
  | succ n ih =>
    intro d h
    obtain ⟨M', hM⟩ : ∃ M', M' = fnM 2 (B__law_same (n + 1)) := ⟨_, rfl⟩
    replace ih : ∀ d, dat n d = true → M' [.fz d, .fz d] S = .ok (.bl true) S := by rw [hM]; exact ih
    refine eq_ent ?_
    rw [B__law_same, ← hM]
    cases d with
    | tup ds =>
      have h' : ds.length ≤ 1000 ∧ ∀ d ∈ ds, dat n d = true := by simpa [dat] using h
      have w : eLc (.nm 2) (iRange (eCons (eN lenC (eCons (pk 1) eNil)) eNil)) tYes (eCall M' (eCons (e2 ixS (pk 0) (pk 2)) (eCons (e2 ixS (pk 1) (pk 2)) eNil))) [2] [.fz (.tup ds), .fz (.tup ds), .un, .un] S = .ok (.lst ((List.range ds.length).map fun _ => .bl true)) S := by
        refine lc_mapG (fun k : Nat => .int (0 + (k : Int))) _ ?_ (by simp [zLine]; omega) fun u hu => ⟨_, rfl, ?_⟩
        · simp -implicitDefEqProofs [rangeS_1 (i := (ds.length : Int)) (by omega) (by omega), upto]
        · have hu' : u < ds.length := List.mem_range.mp hu
          simp -implicitDefEqProofs [List.getElem?_eq_getElem hu', ih _ (h'.2 _ (List.getElem_mem hu'))]
      have al : (List.map (fun (_ : Nat) => true) (List.range ds.length)).all id = true := by simp
      simp -implicitDefEqProofs [w, ofBls_map, al]
    | int i => simp -implicitDefEqProofs []
    | _ => simp [dat] at h
theorem same2 {S : Sto} {a b : Fr} : M__law_same 8 [.fz (.tup [fr a, fr b]), .fz (.tup [fr a, fr b])] S = .ok (.bl true) S := same_ok S 7 _ (by rw [fr_def, fr_def]; rfl)
end K63

set_option linter.all false
set_option maxRecDepth 100000
set_option maxHeartbeats 1000000
namespace K63
open DL
def bodyS : Sv := (sSet 8 (eCall M__law_added (eCons (vr 8) (eCons (eCall M__law_less (eCons (eCall M_told_within (eCons (vr 9) (eCons (vr 3) (eCons (vr 10) eNil)))) eNil)) eNil))))
def bodyA : Sv := (sSeq (sPar2 false false 2 3 (e2 addS (kc (.int 1)) (eCall M__law_draw (eCons (vr 0) (eCons (kc (.int 7)) eNil)))) (eCall M__law_comes (eCons (vr 0) eNil)))
  (sSeq (sPar2 false false 4 5 (eCall M__law_mean (eCons (vr 2) (eCons (vr 3) eNil))) (eCall M__law_mean_on (eCons (vr 2) (eCons (vr 3) eNil))))
  (sSeq (sIf (tNot (tT (eCall (M__law_same 8) (eCons (eTup (eCons (eCall M_mean_told (eCons (vr 2) (eCons (vr 3) eNil))) (eCons (eCallK M_mean_told [1, 0] eNil (eCons (vr 3) (eCons (vr 2) eNil))) eNil))) (eCons (eTup (eCons (vr 4) (eCons (vr 4) eNil))) eNil))))) (sRet (kc (.bl false))) sNil)
  (sSeq (sIf (tNot (tT (eCall (M__law_same 8) (eCons (eTup (eCons (eCall M_mean_on (eCons (vr 2) (eCons (vr 3) eNil))) (eCons (eCallK M_mean_on [1, 0] eNil (eCons (vr 3) (eCons (vr 2) eNil))) eNil))) (eCons (eTup (eCons (vr 5) (eCons (vr 5) eNil))) eNil))))) (sRet (kc (.bl false))) sNil)
  (sSeq (sPar2 false false 6 7 (eCall M_mean_told (eCons (e2 addS (pk 2) (kc (.int 1))) (eCons (vr 3) eNil))) (eCall M_mean_told (eCons (vr 2) (eCons (eCall M__law_lowest (eCons (e2 addS (e2 ixS (pk 3) (kc (.int 0))) (e2 ixS (pk 3) (kc (.int 1)))) (eCons (e2 mulS (kc (.int 2)) (e2 ixS (pk 3) (kc (.int 1)))) eNil))) eNil))))
  (sSeq (sIf (tOr (tB (e2 ltS (e2 mulS (e2 ixS (pk 6) (kc (.int 0))) (e2 ixS (pk 4) (kc (.int 1)))) (e2 mulS (e2 ixS (pk 4) (kc (.int 0))) (e2 ixS (pk 6) (kc (.int 1)))))) (tB (e2 ltS (e2 mulS (e2 ixS (pk 4) (kc (.int 0))) (e2 ixS (pk 7) (kc (.int 1)))) (e2 mulS (e2 ixS (pk 7) (kc (.int 0))) (e2 ixS (pk 4) (kc (.int 1))))))) (sRet (kc (.bl false))) sNil)
  (sSeq (sPar2 false false 8 9 (eTup (eCons (kc (.int 0)) (eCons (kc (.int 1)) eNil))) (eN min2C (eCons (pk 2) (eCons (kc (.int 2)) eNil))))
  (sSeq (sFor (.nm 10) (iRange (eCons (kc (.int 12)) eNil)) bodyS)
  (sSeq (sSet 11 (eCall M_mean_told (eCons (vr 9) (eCons (vr 3) eNil))))
  (sSeq (sIf (tOr (tB (e2 gtS (e2 mulS (e2 ixS (pk 8) (kc (.int 0))) (e2 ixS (pk 11) (kc (.int 1)))) (e2 mulS (e2 ixS (pk 11) (kc (.int 0))) (e2 ixS (pk 8) (kc (.int 1)))))) (tAnd (tB (e2 eqS (pk 3) (eTup (eCons (kc (.int 1)) (eCons (kc (.int 1)) eNil))))) (tB (e2 neS (pk 8) (pk 11))))) (sRet (kc (.bl false))) sNil)
  (sSeq (sSet 12 (eCall M__law_less (eCons (eCall M__law_within (eCons (vr 9) (eCons (vr 3) (eCons (kc (.int 12)) eNil)))) eNil)))
  (sSeq (sSet 13 (eCall M__law_times (eCons (vr 12) (eCons (vr 11) eNil))))
  (sIf (tB (e2 gtS (e2 mulS (e2 mulS (e2 ixS (pk 11) (kc (.int 0))) (e2 ixS (pk 8) (kc (.int 1)))) (e2 ixS (pk 13) (kc (.int 1)))) (e2 mulS (e2 addS (e2 mulS (e2 ixS (pk 8) (kc (.int 0))) (e2 ixS (pk 13) (kc (.int 1)))) (e2 mulS (e2 ixS (pk 13) (kc (.int 0))) (e2 ixS (pk 8) (kc (.int 1))))) (e2 ixS (pk 11) (kc (.int 1)))))) (sRet (kc (.bl false))) sNil)))))))))))))
def tailA : Sv := (sSeq (sSet 14 (eTup (eCons (eCall M_mean_told (eCons (kc (.int 1)) (eCons (eTup (eCons (kc (.int 1)) (eCons (kc (.int 2)) eNil))) eNil))) (eCons (eCall M_mean_told (eCons (kc (.int 2)) (eCons (eTup (eCons (kc (.int 1)) (eCons (kc (.int 2)) eNil))) eNil))) (eCons (eCall M_mean_on (eCons (kc (.int 1)) (eCons (eTup (eCons (kc (.int 1)) (eCons (kc (.int 2)) eNil))) eNil))) (eCons (eCall M_mean_on (eCons (kc (.int 3)) (eCons (eTup (eCons (kc (.int 1)) (eCons (kc (.int 1)) eNil))) eNil))) (eCons (eCall M_mean_told (eCons (kc (.int 15)) (eCons (eTup (eCons (kc (.int 1)) (eCons (kc (.int 1)) eNil))) eNil))) eNil)))))))
  (sRet (eCall (M__law_same 8) (eCons (vr 14) (eCons (eTup (eCons (eTup (eCons (kc (.int 2)) (eCons (kc (.int 1)) eNil))) (eCons (eTup (eCons (kc (.int 8)) (eCons (kc (.int 3)) eNil))) (eCons (eTup (eCons (kc (.int 3)) (eCons (kc (.int 1)) eNil))) (eCons (eTup (eCons (kc (.int 1)) (eCons (kc (.int 1)) eNil))) (eCons (eTup (eCons (kc (.int 1)) (eCons (kc (.int 1)) eNil))) eNil)))))) eNil)))))
theorem eq_fr {S : Sto} {p q : Fr} : eqS S (fr p) (fr q) = some (.bl (decide (p = q))) := by
  rw [fr_def, fr_def, eqS_tups rfl rfl]
  obtain ⟨a, b⟩ := p
  obtain ⟨x, y⟩ := q
  by_cases h1 : a = x <;> by_cases h2 : b = y <;> simp [eqvs, eqv, h1, h2]
theorem ne_fr {S : Sto} {p q : Fr} : neS S (fr p) (fr q) = some (.bl (!decide (p = q))) := by
  rw [fr_def, fr_def, neS_tups rfl rfl]
  obtain ⟨a, b⟩ := p
  obtain ⟨x, y⟩ := q
  by_cases h1 : a = x <;> by_cases h2 : b = y <;> simp [eqvs, eqv, h1, h2]
theorem mul3 {a b : Int} {S : Sto} (h : a.natAbs.log2 < 100000) (h2 : b.natAbs.log2 < 100000) : mulS S (.int a) (.int b) = some (.int (a * b)) :=
  mulS_int (by simp only [mulOk, Bool.or_eq_true, decide_eq_true_eq]; right; omega)
theorem sum_go {c : Fr} (hc : isC c) {few : Nat} (h1 : 1 ≤ few) (h2 : few ≤ 15) {s0 s1 s2 s4 s5 s6 s7 s11 s12 s13 s14 : Slot} {S : Sto} : ∀ (k n : Nat) (t r : Fr) (s10 : Slot), n + k ≤ 50 → sumG few c k n t = some r →
    ∃ z10, forGo (.nm 10) bodyS (upto n k) [s0, s1, s2, .fz (fr c), s4, s5, s6, s7, .fz (fr t), .fz (.int few), s10, s11, s12, s13, s14] S = .ok (.nx [s0, s1, s2, .fz (fr c), s4, s5, s6, s7, .fz (fr r), .fz (.int few), z10, s11, s12, s13, s14]) S
  | 0, n, t, r, s10, _, h => by cases h; exact ⟨s10, rfl⟩
  | k + 1, n, t, r, s10, hl, h => by
    unfold sumG at h
    obtain ⟨w, e1, h⟩ := Option.bind_eq_some_iff.mp h
    obtain ⟨t', e2, h⟩ := Option.bind_eq_some_iff.mp h
    obtain ⟨z10, ih⟩ := sum_go hc h1 h2 (s0 := s0) (s1 := s1) (s2 := s2) (s4 := s4) (s5 := s5) (s6 := s6) (s7 := s7) (s11 := s11) (s12 := s12) (s13 := s13) (s14 := s14) (S := S) k (n + 1) t' r (.fz (.int n)) (by omega) h
    refine ⟨z10, ?_⟩
    have b1 : bodyS [s0, s1, s2, .fz (fr c), s4, s5, s6, s7, .fz (fr t), .fz (.int few), .fz (.int n), s11, s12, s13, s14] S = .ok (.nx [s0, s1, s2, .fz (fr c), s4, s5, s6, s7, .fz (fr t'), .fz (.int few), .fz (.int n), s11, s12, s13, s14]) S := by
      unfold bodyS
      simp -implicitDefEqProofs [told_within_ok hc e1 h1 h2 (show n ≤ 99 by omega), less_ok, added_ok e2]
    rw [upto_succ, forGo_nx rfl b1]
    rw [Int.natCast_add] at ih
    exact ih
theorem need_ok {b : Bool} {u : Unit} (h : need b = some u) : b = true := by
  cases b
  · cases h
  · rfl
theorem bodyA_ok {c0 : Cell} {T : Sto} {s1 s2 s3 s4 s5 s6 s7 s8 s9 s10 s11 s12 s13 s14 : Slot} (n : Wst c0) :
    Ok (bodyA [.fz (.obj 0), s1, s2, s3, s4, s5, s6, s7, s8, s9, s10, s11, s12, s13, s14] (c0 :: T)) fun f S' => ∃ (c' : Cell) (z2 z3 z4 z5 z6 z7 z8 z9 z10 z11 z12 z13 : Slot), f = .nx [.fz (.obj 0), s1, z2, z3, z4, z5, z6, z7, z8, z9, z10, z11, z12, z13, s14] ∧ S' = c' :: T ∧ Wst c' := by
  refine ok_gen fun _ q => ?_
  unfold bodyA
  simp -implicitDefEqProofs []
  refine bind_draw n (by omega) (by omega) fun f c1 hf n1 => ?_
  simp -implicitDefEqProofs []
  refine bind_comes n1 fun c c2 hcs n2 => ?_
  have hc := cs_isC hcs
  have hkE : ∃ u, chk2 (f + 1) c = some u := by
    have w1 : ∀ m ∈ List.range 7, (cs.all fun c => (chk2 (m + 1) c).isSome) = true := List.all_eq_true.mp chk2_all
    have w2 := w1 f (List.mem_range.mpr (by omega))
    have w3 : ∀ x ∈ cs, (chk2 (f + 1) x).isSome = true := List.all_eq_true.mp w2
    exact Option.isSome_iff_exists.mp (w3 c hcs)
  obtain ⟨many, hm⟩ : ∃ many : Nat, many = f + 1 := ⟨_, rfl⟩
  rw [← hm] at hkE
  refine Exists.elim hkE fun u hk => ?_
  have em : (1 : Int) + (f : Int) = (many : Int) := by omega
  have h1 : 1 ≤ many := by omega
  have h7 : many ≤ 7 := by omega
  clear hm
  unfold chk2 at hk
  obtain ⟨due, k1, hk⟩ := Option.bind_eq_some_iff.mp hk
  obtain ⟨on, k2, hk⟩ := Option.bind_eq_some_iff.mp hk
  obtain ⟨a, k3, hk⟩ := Option.bind_eq_some_iff.mp hk
  obtain ⟨b, k4, hk⟩ := Option.bind_eq_some_iff.mp hk
  obtain ⟨_, k5, hk⟩ := Option.bind_eq_some_iff.mp hk
  obtain ⟨more, k6, hk⟩ := Option.bind_eq_some_iff.mp hk
  obtain ⟨cc, k7, hk⟩ := Option.bind_eq_some_iff.mp hk
  obtain ⟨_, k8, hk⟩ := Option.bind_eq_some_iff.mp hk
  obtain ⟨less, k9, hk⟩ := Option.bind_eq_some_iff.mp hk
  obtain ⟨_, k10, hk⟩ := Option.bind_eq_some_iff.mp hk
  obtain ⟨total, k11, hk⟩ := Option.bind_eq_some_iff.mp hk
  obtain ⟨whole, k12, hk⟩ := Option.bind_eq_some_iff.mp hk
  obtain ⟨_, k13, hk⟩ := Option.bind_eq_some_iff.mp hk
  obtain ⟨w12, k14, hk⟩ := Option.bind_eq_some_iff.mp hk
  obtain ⟨rest, k15, hk⟩ := Option.bind_eq_some_iff.mp hk
  have k5b := need_ok k5
  clear k5
  have k8b := need_ok k8
  clear k8
  have k10b := need_ok k10
  clear k10
  have k13b := need_ok k13
  clear k13
  have kz := need_ok hk
  clear hk
  have k5c : a = due ∧ b = on := by simpa using k5b
  clear k5b
  obtain ⟨rfl, rfl⟩ := k5c
  have hc2 : isC cc := by simpa [isCb, isC, and_assoc] using k8b
  have k10 : (((ok1 more = true ∧ ok1 a = true) ∧ ok1 less = true) ∧ ¬ more.1 * a.2 < a.1 * more.2) ∧ ¬ a.1 * less.2 < less.1 * a.2 := by simpa using k10b
  obtain ⟨⟨⟨⟨o1, o2⟩, o3⟩, i1⟩, i2⟩ := k10
  obtain ⟨⟨o11, o12⟩, ⟨o21, o22⟩, ⟨o31, o32⟩⟩ := And.intro (ok1_and o1) (And.intro (ok1_and o2) (ok1_and o3))
  have k13 : ((ok1 total = true ∧ ok1 whole = true) ∧ ¬ whole.1 * total.2 < total.1 * whole.2) ∧ (c = (1, 1) → total = whole) := by
    have := k13b
    simp only [Bool.and_eq_true, Bool.or_eq_true, Bool.not_eq_true', decide_eq_false_iff_not, beq_iff_eq] at this
    refine ⟨this.1, fun e => ?_⟩
    rcases this.2 with z | z
    · rw [e] at z; simp at z
    · exact z
  obtain ⟨⟨⟨o4, o5⟩, i3⟩, i4⟩ := k13
  obtain ⟨⟨o41, o42⟩, ⟨o51, o52⟩⟩ := And.intro (ok1_and o4) (ok1_and o5)
  simp only [Bool.and_eq_true, Bool.not_eq_true', decide_eq_true_eq, decide_eq_false_iff_not] at kz
  obtain ⟨⟨⟨⟨⟨⟨g1, g2⟩, g3⟩, g4⟩, g5⟩, g6⟩, i5⟩ := kz
  obtain ⟨many1, hm1⟩ : ∃ many1 : Nat, many1 = many + 1 := ⟨_, rfl⟩
  rw [← hm1] at k6
  have em1 : (many : Int) + 1 = (many1 : Int) := by omega
  obtain ⟨few, hfew⟩ : ∃ few : Nat, few = min many 2 := ⟨_, rfl⟩
  rw [← hfew] at k11 k12 k14
  have ef : (if (2 : Int) < (many : Int) then (2 : Int) else (many : Int)) = (few : Int) := by split <;> omega
  have hf1 : 1 ≤ few := by omega
  have hf2 : few ≤ 2 := by omega
  have hm15 : many1 ≤ 15 := by omega
  have hm11 : 1 ≤ many1 := by omega
  clear hfew hm1
  have emul : ∀ S : Sto, mulS S (.int 2) (.int c.2) = some (.int (2 * c.2)) := fun S => mulS_int (by simp [mulOk])
  have q1 : ∀ {x y : Int}, x.natAbs.log2 < 1000 → y.natAbs.log2 < 1000 → ∀ S : Sto, mulS S (.int x) (.int y) = some (.int (x * y)) := fun h h' S => mul_ok h h'
  have c1 : (D.tup [.int 1, .int 1]) = fr (1, 1) := fr_mk 1 1
  have c0' : (D.tup [.int 0, .int 1]) = fr (0, 1) := fr_mk 0 1
  have iE : ∀ S : Sto, eqS S (fr c) (.tup [.int 1, .int 1]) = some (.bl (decide (c = (1, 1)))) := fun S => by rw [c1, eq_fr]
  have L2 : ∀ x y : Int, x.natAbs.log2 < 300 → y.natAbs.log2 < 300 → (x * y).natAbs.log2 < 700 := fun x y hx hy => by
    by_cases hz : (x * y).natAbs = 0
    · rw [hz]; decide
    · refine (Nat.log2_lt hz).mpr ?_
      rw [Int.natAbs_mul]
      have a1 : x.natAbs < 2 ^ 300 := Nat.lt_of_lt_of_le Nat.lt_log2_self (Nat.pow_le_pow_right (by omega) hx)
      have a2 : y.natAbs < 2 ^ 300 := Nat.lt_of_lt_of_le Nat.lt_log2_self (Nat.pow_le_pow_right (by omega) hy)
      exact Nat.lt_of_lt_of_le (Nat.mul_lt_mul'' a1 a2) (by rw [← Nat.pow_add]; exact Nat.pow_le_pow_right (by omega) (by omega))
  have L3 : (total.1 * rest.2 + rest.1 * total.2).natAbs.log2 < 1000 := by
    by_cases hz : (total.1 * rest.2 + rest.1 * total.2).natAbs = 0
    · rw [hz]; decide
    · refine (Nat.log2_lt hz).mpr ?_
      have a1 := L2 _ _ g3 g2
      have a2 := L2 _ _ g1 g4
      have b1 : (total.1 * rest.2).natAbs < 2 ^ 700 := Nat.lt_of_lt_of_le Nat.lt_log2_self (Nat.pow_le_pow_right (by omega) a1)
      have b2 : (rest.1 * total.2).natAbs < 2 ^ 700 := Nat.lt_of_lt_of_le Nat.lt_log2_self (Nat.pow_le_pow_right (by omega) a2)
      have b3 : (2 : Nat) ^ 700 + 2 ^ 700 ≤ 2 ^ 1000 := by decide
      omega
  obtain ⟨z10, es⟩ := sum_go hc hf1 (by omega) (s0 := .fz (.obj 0)) (s1 := s1) (s2 := .fz (.int many)) (s4 := .fz (fr a)) (s5 := .fz (fr b)) (s6 := .fz (fr more)) (s7 := .fz (fr less)) (s11 := s11) (s12 := s12) (s13 := s13) (s14 := s14) (S := c2 :: T) 12 0 (0, 1) total s10 (by omega) k11
  rw [show ((0 : Nat) : Int) = 0 from rfl, ← c0'] at es
  generalize bodyS = bb at es ⊢
  simp -implicitDefEqProofs [em, mean_ok k1 h7, on_ok k2 h7, mean_told_ok hc k3 h1 (by omega), mean_on_ok hc k4 h1 (by omega), same2, em1, mean_told_ok hc k6 hm11 hm15, emul, lowest_ok k7, mean_told_ok hc2 k9 h1 (by omega), q1 o11 o22, q1 o21 o12, i1, q1 o21 o32, q1 o31 o22, i2, ef, rangeS_1, es, mean_told_ok hc k12 hf1 (by omega), q1 o41 o52, q1 o51 o42, i3, iE, ne_fr]
  have kA : ∀ (ρ : DL.Env) (S : Sto), ρ[8]? = some (.fz (fr total)) → ρ[11]? = some (.fz (fr whole)) → tAnd_k1 (tB (e2 neS (pk 8) (pk 11))) ρ (decide (c = (1, 1))) S = .ok false S := fun ρ S r8 r11 => by
    by_cases hz : c = (1, 1)
    · simp -implicitDefEqProofs [hz, r8, r11, ne_fr, i4 hz]
    · simp -implicitDefEqProofs [hz]
  rw [kA _ _ rfl rfl]
  have kw := fun S : Sto => within_ok (S := S) k14 (by omega) (by omega)
  rw [show ((12 : Nat) : Int) = 12 from rfl] at kw
  have m1 : ∀ S : Sto, mulS S (.int (whole.1 * total.2)) (.int rest.2) = some (.int (whole.1 * total.2 * rest.2)) := fun S => mul3 (Nat.lt_trans (L2 _ _ g5 g4) (by omega)) (by omega)
  have m2 : ∀ S : Sto, mulS S (.int (total.1 * rest.2 + rest.1 * total.2)) (.int whole.2) = some (.int ((total.1 * rest.2 + rest.1 * total.2) * whole.2)) := fun S => mul3 (by omega) (by omega)
  have m3 : ∀ S : Sto, mulS S (.int total.1) (.int rest.2) = some (.int (total.1 * rest.2)) := fun S => mul3 (by omega) (by omega)
  have m4 : ∀ S : Sto, mulS S (.int rest.1) (.int total.2) = some (.int (rest.1 * total.2)) := fun S => mul3 (by omega) (by omega)
  simp -implicitDefEqProofs [kw, less_ok, times_ok k15, q1 o51 o42, m1, m2, m3, m4, i5]
  exact ok_ok (q _ _ ⟨c2, _, _, _, _, _, _, _, _, _, _, _, _, rfl, rfl, n2⟩)
theorem told_a : toldP 1 (1, 2) = some (2, 1) ∧ toldP 2 (1, 2) = some (8, 3) ∧ onP 1 (1, 2) = some (3, 1) ∧ onP 3 (1, 1) = some (1, 1) ∧ toldP 15 (1, 1) = some (1, 1) := by decide +kernel
theorem two_ok {c0 : Cell} (n : Wst c0) : Ok (M__law_two_right [.fz (.obj 0)] [c0]) fun d S' => ∃ c', d = .bl true ∧ S' = [c'] ∧ Wst c' := by
  obtain ⟨t1, t2, t3, t4, t5⟩ := told_a
  have hc1 : isC (1, 2) := cs_isC (by decide)
  have hc2 : isC (1, 1) := cs_isC (by decide)
  have f12 : D.tup [.int 1, .int 2] = fr (1, 2) := fr_mk 1 2
  have f11 : D.tup [.int 1, .int 1] = fr (1, 1) := fr_mk 1 1
  have f21 : D.tup [.int 2, .int 1] = fr (2, 1) := fr_mk 2 1
  have f83 : D.tup [.int 8, .int 3] = fr (8, 3) := fr_mk 8 3
  have f31 : D.tup [.int 3, .int 1] = fr (3, 1) := fr_mk 3 1
  have x1 : ∀ S : Sto, M_mean_told [.fz (.int 1), .fz (.tup [.int 1, .int 2])] S = .ok (fr (2, 1)) S := fun S => by rw [f12]; exact mean_told_ok (many := 1) hc1 t1 (by omega) (by omega)
  have x2 : ∀ S : Sto, M_mean_told [.fz (.int 2), .fz (.tup [.int 1, .int 2])] S = .ok (fr (8, 3)) S := fun S => by rw [f12]; exact mean_told_ok (many := 2) hc1 t2 (by omega) (by omega)
  have x3 : ∀ S : Sto, M_mean_on [.fz (.int 1), .fz (.tup [.int 1, .int 2])] S = .ok (fr (3, 1)) S := fun S => by rw [f12]; exact mean_on_ok (many := 1) hc1 t3 (by omega) (by omega)
  have x4 : ∀ S : Sto, M_mean_on [.fz (.int 3), .fz (.tup [.int 1, .int 1])] S = .ok (fr (1, 1)) S := fun S => by rw [f11]; exact mean_on_ok (many := 3) hc2 t4 (by omega) (by omega)
  have x5 : ∀ S : Sto, M_mean_told [.fz (.int 15), .fz (.tup [.int 1, .int 1])] S = .ok (fr (1, 1)) S := fun S => by rw [f11]; exact mean_told_ok (many := 15) hc2 t5 (by omega) (by omega)
  have dS : ∀ S : Sto, M__law_same 8 [.fz (.tup [fr (2, 1), fr (8, 3), fr (3, 1), fr (1, 1), fr (1, 1)]), .fz (.tup [fr (2, 1), fr (8, 3), fr (3, 1), fr (1, 1), fr (1, 1)])] S = .ok (.bl true) S := fun S => same_ok S 7 _ (by rw [fr_def, fr_def, fr_def, fr_def]; rfl)
  have hB : B__law_two_right = sSeq (sFor (.nm 1) (iRange (eCons (kc (.int 2)) eNil)) bodyA) tailA := rfl
  refine ok_gen fun _ q => ?_
  rw [show M__law_two_right = fnM 14 B__law_two_right from rfl, hB]
  have bA := @bodyA_ok
  generalize bodyA = ba at bA ⊢
  ((first | refine ok_ent ?_ | refine eq_ent ?_); simp -implicitDefEqProofs [rangeS_1])
  refine ok_bind (ok_for (fun rest ρ S' => ∃ (c' : Cell) (s1 z2 z3 z4 z5 z6 z7 z8 z9 z10 z11 z12 z13 : Slot), ρ = [.fz (.obj 0), s1, z2, z3, z4, z5, z6, z7, z8, z9, z10, z11, z12, z13, .un] ∧ S' = [c'] ∧ Wst c') ?_ ⟨_, _, _, _, _, _, _, _, _, _, _, _, _, _, rfl, rfl, n⟩) ?_
  · rintro d ds _ _ ⟨c', s1, z2, z3, z4, z5, z6, z7, z8, z9, z10, z11, z12, z13, rfl, rfl, n'⟩
    refine ⟨_, rfl, fun _ q => ?_⟩
    refine ok_of (bA n') ?_
    rintro _ _ ⟨c2, y2, y3, y4, y5, y6, y7, y8, y9, y10, y11, y12, y13, rfl, rfl, n2⟩
    exact (q _ _ ⟨c2, _, _, _, _, _, _, _, _, _, _, _, _, _, rfl, rfl, n2⟩).1
  · rintro _ _ ⟨_, rfl, c', s1, z2, z3, z4, z5, z6, z7, z8, z9, z10, z11, z12, z13, rfl, rfl, n'⟩
    unfold tailA
    have z1 : ∀ S : Sto, M__law_same 8 [.fz (.tup [fr (2, 1), fr (8, 3), fr (3, 1), fr (1, 1), fr (1, 1)]), .fz (.tup [.tup [.int 2, .int 1], .tup [.int 8, .int 3], .tup [.int 3, .int 1], .tup [.int 1, .int 1], .tup [.int 1, .int 1]])] S = .ok (.bl true) S := fun S => by
      rw [f21, f83, f31, f11]
      exact dS S
    simp -implicitDefEqProofs [x1, x2, x3, x4, x5, z1]
    exact ok_ok (q _ _ ⟨c', rfl, rfl, n'⟩)
end K63

set_option linter.all false
set_option maxRecDepth 100000
set_option maxHeartbeats 1000000
namespace K63
open DL
abbrev lets : List Nat := [97, 98, 99, 100, 101, 102, 103, 104, 105, 106, 107, 108, 109, 110, 111, 112, 113, 114, 115, 116, 117, 118, 119, 120, 121, 122]
def kinds : List (List Nat) := [[112, 111, 115, 116], [119, 97, 121], [98, 105, 114, 100]]
def nameOk (x : List Nat) : Prop := x ≠ [] ∧ (∀ k ∈ x, k ∈ lets) ∧ x.length ≤ 6 ∧ x ∉ kinds
theorem notIn_strs {S : Sto} {x : List Nat} {ks : List (List Nat)} : notInS S (.str x) (.tup (ks.map .str)) = some (.bl (!decide (x ∈ ks))) := by
  have h1 : (ks.map D.str).all (py 40) = true := by simp [py]
  have h2 : (ks.map D.str).any (fun d => eqv d (.str x)) = decide (x ∈ ks) := by
    rw [List.any_map]
    by_cases h : x ∈ ks
    · simp only [h, decide_true, List.any_eq_true]
      exact ⟨x, h, by simp [eqv]⟩
    · simp only [h, decide_false]
      rw [List.any_eq_false]
      intro y hy e
      simp [eqv] at e
      exact h (e ▸ hy)
  show (inB S (.str x) (.tup (ks.map .str))).map (fun b => D.bl (!b)) = _
  have h3 : inB S (.str x) (.tup (ks.map .str)) = some (decide (x ∈ ks)) := by
    show (if (py 40 (.str x) && (ks.map D.str).all (py 40)) = true then some ((ks.map D.str).any fun d => eqv d (.str x)) else none) = _
    rw [if_pos (by rw [h1]; rfl), h2]
  rw [h3]
  rfl
theorem small_ok' {x : List Nat} {S : Sto} (h0 : x ≠ []) (h1 : x.length ≤ 100) (h2 : ∀ k ∈ x, k ∈ lets) : M_is_small [.fz (.str x)] S = .ok (.bl true) S := by
  have w : eLc (.nm 1) (iStr (pk 0)) tYes (e2 inS (pk 1) (kc (.str lets))) [1] [.fz (.str x), .un] S = .ok (.lst (x.map fun k => .bl (lets.contains k))) S := by
    refine lc_mapG (fun k => .str [k]) _ (by simp -implicitDefEqProofs []) (by simp [zLine]; omega) fun u hu => ⟨_, rfl, ?_⟩
    simp -implicitDefEqProofs []
  ((first | refine ok_ent ?_ | refine eq_ent ?_); simp -implicitDefEqProofs [B_is_small, h0, w, ofBls_map])
  exact fun k hk => by simpa using h2 k hk
theorem name_ok {x : List Nat} {S : Sto} (h : nameOk x) : M_is_name [.fz (.str x)] S = .ok (.bl true) S := by
  obtain ⟨h0, h1, h2, h3⟩ := h
  have h2' : (x.length : Int) ≤ 6 := by omega
  have hn : notInS S (.str x) (.tup [.str [112, 111, 115, 116], .str [119, 97, 121], .str [98, 105, 114, 100]]) = some (.bl true) := by
    have := notIn_strs (S := S) (x := x) (ks := kinds)
    simp only [h3, decide_false, Bool.not_false] at this
    exact this
  ((first | refine ok_ent ?_ | refine eq_ent ?_); simp -implicitDefEqProofs [B_is_name, small_ok' h0 (by omega) h1, h2', hn])
theorem lt_strs {S : Sto} {x y : List Nat} : ltS S (.str x) (.str y) = some (.bl (decide (x < y))) := rfl
theorem atL_last {α : Type} {l : List α} {u : α} : atL (l ++ [u]) (-1) = some u := by
  unfold atL ixNat
  rw [if_neg (by omega), if_pos (by simp; omega)]
  show (l ++ [u])[((-1 : Int) + ((l ++ [u]).length : Int)).toNat]? = some u
  rw [show ((-1 : Int) + ((l ++ [u]).length : Int)).toNat = l.length by rw [List.length_append]; simp; omega]
  simp
/-! plans -/
abbrev PlT := List (List Nat × Nat)
def eD (q : List Nat × Nat) : D := .tup [.str q.1, .int q.2]
def plD (pl : PlT) : D := .tup (pl.map eD)
structure VP (many : Nat) (pl : PlT) : Prop where
  len : pl.length ≤ 100
  nm : ∀ q ∈ pl, nameOk q.1 ∧ q.2 < many
  asc : pl.Pairwise fun a b => a.1 < b.1
theorem py_eD {pl : PlT} : (pl.map eD).all (py 39) = true := by
  rw [List.all_map, List.all_eq_true]
  intro q _
  rfl
theorem bearer_ok {many : Nat} {ahead : PlT} {q : List Nat × Nat} {S : Sto} (hq : nameOk q.1) (hp : q.2 < many) (ha : ∀ l u, ahead = l ++ [u] → u.1 < q.1) : M_is_bearer [.fz (.int many), .fz (plD ahead), .fz (eD q)] S = .ok (.bl true) S := by
  have t : M_is_tuple_of [.fz (eD q), .fz (.int 2)] S = .ok (.bl true) S := by
    unfold eD
    ((first | refine ok_ent ?_ | refine eq_ent ?_); simp -implicitDefEqProofs [B_is_tuple_of])
  have t2 : M_is_pair [.fz (eD q)] S = .ok (.bl true) S := by ((first | refine ok_ent ?_ | refine eq_ent ?_); simp -implicitDefEqProofs [B_is_pair, t])
  have t3 : M_is_up_to [.fz (.int q.2), .fz (.int ((many : Int) - 1))] S = .ok (.bl true) S := by
    rw [upto_int]
    have h1 : (q.2 : Int) ≤ (many : Int) - 1 := by omega
    simp [h1]
  have x0 : ixS S (eD q) (.int 0) = some (.str q.1) := by unfold eD; rw [ixS_tup, atL_0]
  have x1 : ixS S (eD q) (.int 1) = some (.int q.2) := by unfold eD; rw [ixS_tup, atL_1]
  rcases List.eq_nil_or_concat ahead with rfl | ⟨l, u, hlu⟩
  · ((first | refine ok_ent ?_ | refine eq_ent ?_); simp -implicitDefEqProofs [B_is_bearer, t2, name_ok hq, t3, x0, x1, plD, eqS_tups, eqvs])
  · rw [List.concat_eq_append] at hlu
    subst hlu
    have hu := ha l u rfl
    have x2 : ixS S (eD u) (.int 0) = some (.str u.1) := by unfold eD; rw [ixS_tup, atL_0]
    have hb : eqS S (plD (l ++ [u])) (.tup []) = some (.bl false) := by
      unfold plD
      rw [eqS_tups py_eD rfl]
      cases l <;> rfl
    have hi : ixS S (plD (l ++ [u])) (.int (-1)) = some (eD u) := by
      unfold plD
      rw [ixS_tup, List.map_append]
      exact atL_last
    ((first | refine ok_ent ?_ | refine eq_ent ?_); simp -implicitDefEqProofs [B_is_bearer, t2, name_ok hq, t3, x0, x1, hb, hi, x2, lt_strs, hu])
theorem enum_step {k : Nat} {ds : List D} {d : D} {r : List D} (h : enumL k (ds.drop k) = d :: r) : ∃ e, ds[k]? = some e ∧ k < ds.length ∧ d = .tup [.int k, e] ∧ r = enumL (k + 1) (ds.drop (k + 1)) := by
  by_cases hk : k < ds.length
  · rw [List.drop_eq_getElem_cons hk] at h
    unfold enumL at h
    obtain ⟨h1, h2⟩ := List.cons.inj h
    exact ⟨ds[k], List.getElem?_eq_getElem hk, hk, h1.symm, h2.symm⟩
  · rw [List.drop_eq_nil_of_le (by omega)] at h
    cases h
theorem wrong_none {ds : List D} {G : List D → Sto → Res D} {S : Sto} (hG : ∀ (i : Nat) (d : D), ds[i]? = some d → G [.tup (ds.take i), d] S = .ok (.bl true) S) :
    M_wrong_in [.fz (.tup ds), .fz (.int 0), .fz .non, .cl G] S = .ok (.lst []) S := by
  suffices h : Ok (M_wrong_in [.fz (.tup ds), .fz (.int 0), .fz .non, .cl G] S) fun d S' => d = .lst [] ∧ S' = S by
    obtain ⟨d, S', e, rfl, rfl⟩ := h.ex
    exact e
  refine ok_gen fun _ q => ?_
  have hl0 : ¬ ((ds.length : Int) < 0) := by omega
  ((first | refine ok_ent ?_ | refine eq_ent ?_); simp -implicitDefEqProofs [B_wrong_in, hl0])
  refine ok_bind (ok_for (fun rest ρ S' => ∃ (k : Nat) (s4 s5 : Slot), rest = enumL k (ds.drop k) ∧ S' = S ∧ ρ = [.fz (.tup ds), .fz (.int 0), .fz .non, .cl G, s4, s5]) ?_ ⟨0, .un, .un, rfl, rfl, rfl⟩) ?_
  · rintro d r _ _ ⟨k, s4, s5, h, rfl, rfl⟩
    obtain ⟨e, he, hk, rfl, rfl⟩ := enum_step h.symm
    refine ⟨_, rfl, fun _ q => ?_⟩
    have hc : cut ds none (some (k : Int)) = ds.take k := by
      unfold cut
      rw [sIx_none, sIx_pos (by omega)]
      simp
    have he2 : ∀ S : Sto, eqS S (.int k) .non = some (.bl false) := fun _ => rfl
    have := hG k e he
    simp -implicitDefEqProofs [he2, hc, this]
    exact ok_ok (q _ _ ⟨k + 1, _, _, rfl, rfl, rfl⟩).1
  · rintro _ _ ⟨ρ, rfl, k, s4, s5, h, rfl, rfl⟩
    simp -implicitDefEqProofs []
    exact ok_ok (q _ _ ⟨rfl, rfl⟩)
theorem check_plan_ok {many : Nat} {pl : PlT} {S : Sto} (h : VP many pl) (h1 : 1 ≤ many) (h2 : many ≤ 15) : M_check_plan [.fz (.int many), .fz (plD pl)] S = .ok .non S := by
  have w : M_wrong_in [.fz (plD pl), .fz (.int 0), .fz .non, .cl (lamG 2 [0] 0 L_wrong_in_plan_0 [.fz (.int many), .fz (plD pl)])] S = .ok (.lst []) S := by
    refine wrong_none fun i d hd => ?_
    rw [List.getElem?_map] at hd
    cases hq : pl[i]? with
    | none => rw [hq] at hd; cases hd
    | some q =>
      rw [hq] at hd
      cases hd
      have hm := h.nm q (List.mem_of_getElem? hq)
      have e : D.tup ((pl.map eD).take i) = plD (pl.take i) := by unfold plD; rw [List.map_take]
      have hb := bearer_ok (S := S) (many := many) (ahead := pl.take i) hm.1 hm.2 fun l u hu => by
        have hi : i < pl.length := (List.getElem?_eq_some_iff.mp hq).1
        have hl : l.length + 1 = i := by
          have := congrArg List.length hu
          rw [List.length_take, List.length_append] at this
          simp at this
          omega
        have hu2 : pl[l.length]? = some u := by
          have : (pl.take i)[l.length]? = some u := by rw [hu]; simp
          rw [List.getElem?_take] at this
          split at this
          · exact this
          · cases this
        obtain ⟨a1, a2⟩ := List.getElem?_eq_some_iff.mp hu2
        obtain ⟨b1, b2⟩ := List.getElem?_eq_some_iff.mp hq
        have := List.pairwise_iff_getElem.mp h.asc l.length i a1 b1 (by omega)
        rw [a2, b2] at this
        exact this
      rw [e]
      simp -implicitDefEqProofs [lamG_at, L_wrong_in_plan_0, capS, hb]
  have w2 : M_wrong_in_plan [.fz (.int many), .fz (plD pl)] S = .ok (.lst []) S := by
    ((first | refine ok_ent ?_ | refine eq_ent ?_); simp -implicitDefEqProofs [B_wrong_in_plan, w])
  ((first | refine ok_ent ?_ | refine eq_ent ?_); simp -implicitDefEqProofs [B_check_plan, many_ok (i := (many : Int)) (by omega) (by omega), w2])
end K63

set_option linter.all false
set_option maxRecDepth 100000
set_option maxHeartbeats 1000000
namespace K63
open DL
def cnt (pl : PlT) (k : Nat) : Nat := (pl.filter fun q => q.2 == k).length
def cnts (many : Nat) (pl : PlT) : List Nat := (List.range many).map (cnt pl)
theorem intsOf_map {α : Type} (f : α → Int) : ∀ l : List α, intsOf (l.map fun u => .int (f u)) = some (l.map f)
  | [] => rfl
  | u :: l => by
    show (intsOf (l.map fun u => .int (f u))).map (f u :: ·) = _
    rw [intsOf_map f l]
    rfl
theorem count_cnt (k : Nat) : ∀ pl : PlT, (pl.map fun q => (q.2 : Int)).count (k : Int) = cnt pl k
  | [] => rfl
  | q :: pl => by
    have ih := count_cnt k pl
    unfold cnt at ih ⊢
    rw [List.map_cons, List.count_cons, ih, List.filter_cons]
    by_cases h : q.2 = k
    · simp [h]
    · have h' : ¬ ((q.2 : Int) = (k : Int)) := by omega
      simp [h, h']
theorem bearers_ok {many : Nat} {pl : PlT} {S : Sto} (h : pl.length ≤ 100) (hm : many ≤ 100) : M_bearers_of [.fz (.int many), .fz (plD pl)] S = .ok (.lst ((cnts many pl).map fun n => .int (n : Nat))) S := by
  have w1 : eLc (.tp [(.nm 2), (.nm 3)]) (iSeq (vr 1)) tYes (vr 3) [2, 3] [.fz (.int many), .fz (plD pl), .un, .un, .un] S = .ok (.lst (pl.map fun q => .int (q.2 : Int))) S := by
    refine lc_mapG eD _ (by unfold plD; simp -implicitDefEqProofs []) (by simp [zLine]; omega) fun q _ => ⟨_, rfl, by simp -implicitDefEqProofs []⟩
  have w2 : eLc (.nm 3) (iRange (eCons (vr 0) eNil)) tYes (eM .lst countM (pk 4) (eCons (pk 3) eNil)) [3] [.fz (.int many), .fz (plD pl), .un, .un, .fz (.lst (pl.map fun q => .int (q.2 : Int)))] S = .ok (.lst ((List.range many).map fun k => .int (cnt pl k : Nat))) S := by
    refine lc_mapG (fun k : Nat => .int (0 + (k : Int))) _ ?_ (by simp [zLine]; omega) fun k _ => ⟨_, rfl, ?_⟩
    · simp -implicitDefEqProofs [rangeS_1 (i := (many : Int)) (by omega) (by omega), upto]
    · have e1 : ∀ S : Sto, recS .lst S (.lst (pl.map fun q => .int (q.2 : Int))) = some () := fun _ => rfl
      have e2 : ∀ S : Sto, countM S (.lst (pl.map fun q => .int (q.2 : Int))) [.int (k : Int)] = some (.int (cnt pl k : Nat)) := fun S => by
        show (intsOf _).map _ = _
        rw [intsOf_map]
        show some (D.int (((pl.map fun q => (q.2 : Int)).count (k : Int) : Nat) : Int)) = _
        rw [count_cnt]
      simp -implicitDefEqProofs [e1, e2]
  ((first | refine ok_ent ?_ | refine eq_ent ?_); simp -implicitDefEqProofs [B_bearers_of, w1, w2, cnts])
/-! the factors -/
def fac (c : Fr) (n : Nat) : Fr := les (pw (les c) n)
def facB (c : Fr) (n : Nat) : Bool := (powL (les c) n == some (pw (les c) n)) && sm (les c) && decide (0 ≤ (fac c n).1) && decide ((fac c n).1 ≤ (fac c n).2) && decide (0 < (fac c n).2) && decide ((fac c n).2 < 2 ^ 24)
  && decide ((fac c n).1 * (fac c (n + 1)).2 ≤ (fac c (n + 1)).1 * (fac c n).2)
theorem facB_all : (cs.all fun c => (List.range 9).all fun n => facB c n) = true := by decide +kernel
structure FOk (c : Fr) (n : Nat) : Prop where
  pw : powL (les c) n = some (pw (les c) n)
  sm : sm (les c) = true
  nn : 0 ≤ (fac c n).1
  le : (fac c n).1 ≤ (fac c n).2
  pos : 0 < (fac c n).2
  bd : (fac c n).2 < 2 ^ 24
  up : (fac c n).1 * (fac c (n + 1)).2 ≤ (fac c (n + 1)).1 * (fac c n).2
theorem fok {c : Fr} {n : Nat} (hc : c ∈ cs) (hn : n ≤ 8) : FOk c n := by
  have w1 : ∀ c ∈ cs, ((List.range 9).all fun n => facB c n) = true := List.all_eq_true.mp facB_all
  have w2 : ∀ m ∈ List.range 9, facB c m = true := List.all_eq_true.mp (w1 c hc)
  have w3 := w2 n (List.mem_range.mpr (by omega))
  unfold facB at w3
  simp only [Bool.and_eq_true, decide_eq_true_eq, beq_iff_eq] at w3
  obtain ⟨⟨⟨⟨⟨⟨h1, h2⟩, h3⟩, h4⟩, h5⟩, h6⟩, h7⟩ := w3
  exact ⟨h1, h2, h3, h4, h5, h6, h7⟩
def stepT (c : Fr) (t : Fr) (n : Nat) : Fr := low (t.1 * (fac c n).1) (t.2 * (fac c n).2)
def foldT (c : Fr) (ns : List Nat) : Fr := ns.foldl (stepT c) (1, 1)
structure Tok (k : Nat) (t : Fr) : Prop where
  nn : 0 ≤ t.1
  le : t.1 ≤ t.2
  pos : 0 < t.2
  bd : t.2 < 2 ^ (24 * k + 1)
theorem low_prop {a b : Int} (h0 : 0 ≤ a) (h1 : a ≤ b) (h2 : 0 < b) : 0 ≤ (low a b).1 ∧ (low a b).1 ≤ (low a b).2 ∧ 0 < (low a b).2 ∧ (low a b).2 ≤ b ∧ (low a b).1 * b = a * (low a b).2 := by
  unfold low
  have hg : 0 < Nat.gcd a.natAbs b.natAbs := Nat.gcd_pos_of_pos_right _ (by omega)
  obtain ⟨x, hx⟩ := Nat.gcd_dvd_left a.natAbs b.natAbs
  obtain ⟨y, hy⟩ := Nat.gcd_dvd_right a.natAbs b.natAbs
  generalize Nat.gcd a.natAbs b.natAbs = g at hg hx hy
  have ha : a = (g : Int) * (x : Int) := by rw [← Int.natCast_mul, ← hx]; omega
  have hb : b = (g : Int) * (y : Int) := by rw [← Int.natCast_mul, ← hy]; omega
  have hgp : (0 : Int) < g := by omega
  have e1 : a / (g : Int) = x := by rw [ha]; exact Int.mul_ediv_cancel_left _ (by omega)
  have e2 : b / (g : Int) = y := by rw [hb]; exact Int.mul_ediv_cancel_left _ (by omega)
  simp only [e1, e2]
  have hxy : (x : Int) ≤ y := by
    rw [ha, hb] at h1
    exact Int.le_of_mul_le_mul_left h1 hgp
  have hy0 : (0 : Int) < y := by
    have hne : y ≠ 0 := by
      rintro rfl
      rw [hb] at h2
      simp at h2
    omega
  refine ⟨by omega, hxy, hy0, ?_, ?_⟩
  · rw [hb]
    have := Int.mul_le_mul_of_nonneg_right (show (1 : Int) ≤ g by omega) (Int.le_of_lt hy0)
    omega
  · rw [ha, hb]
    rw [Int.mul_comm (x : Int), Int.mul_assoc, Int.mul_assoc, Int.mul_comm (y : Int)]
theorem tok_step {c : Fr} {k n : Nat} {t : Fr} (ht : Tok k t) (f : FOk c n) : Tok (k + 1) (stepT c t n) ∧ (stepT c t n).1 * (t.2 * (fac c n).2) = (t.1 * (fac c n).1) * (stepT c t n).2 := by
  have h0 : 0 ≤ t.1 * (fac c n).1 := Int.mul_nonneg ht.nn f.nn
  have h1 : t.1 * (fac c n).1 ≤ t.2 * (fac c n).2 := Int.mul_le_mul ht.le f.le f.nn (Int.le_of_lt ht.pos)
  have h2 : 0 < t.2 * (fac c n).2 := Int.mul_pos ht.pos f.pos
  obtain ⟨a1, a2, a3, a4, a5⟩ := low_prop h0 h1 h2
  have h3 : t.2 * (fac c n).2 ≤ 2 ^ (24 * k + 1) * 2 ^ 24 := Int.mul_le_mul (Int.le_of_lt ht.bd) (Int.le_of_lt f.bd) (Int.le_of_lt f.pos) (Int.le_of_lt (Int.pow_pos (by omega)))
  have h4 : t.2 * (fac c n).2 < 2 ^ (24 * (k + 1) + 1) := by
    have h5 : t.2 * (fac c n).2 < 2 ^ (24 * k + 1) * 2 ^ 24 := by
      have z1 : t.2 * (fac c n).2 ≤ t.2 * 2 ^ 24 := Int.mul_le_mul_of_nonneg_left (Int.le_of_lt f.bd) (Int.le_of_lt ht.pos)
      have z2 : t.2 * 2 ^ 24 < 2 ^ (24 * k + 1) * 2 ^ 24 := Int.mul_lt_mul_of_pos_right ht.bd (by decide)
      omega
    rw [← Int.pow_add] at h5
    exact h5
  exact ⟨⟨a1, a2, a3, Int.lt_of_le_of_lt a4 h4⟩, a5⟩
theorem log_lt {x : Int} {n : Nat} (h0 : 0 ≤ x) (h : x < 2 ^ n) (hn : 0 < n) : x.natAbs.log2 < n := by
  by_cases hz : x.natAbs = 0
  · rw [hz]; exact hn
  · refine (Nat.log2_lt hz).mpr ?_
    have : (x.natAbs : Int) < ((2 ^ n : Nat) : Int) := by
      rw [Int.natCast_pow]
      have : (x.natAbs : Int) = x := by omega
      rw [this]
      exact h
    omega
theorem pow_le_pow {a b : Nat} (h : a ≤ b) : (2 : Int) ^ a ≤ 2 ^ b := by
  have h2 : (2 : Nat) ^ a ≤ 2 ^ b := Nat.pow_le_pow_right (by omega) h
  have e : ∀ n : Nat, (2 : Int) ^ n = ((2 ^ n : Nat) : Int) := fun n => by rw [Int.natCast_pow]; rfl
  rw [e, e]
  omega
theorem step_L {c : Fr} {k n : Nat} {t : Fr} (ht : Tok k t) (f : FOk c n) (hk : k ≤ 6) : timL t (fac c n) = some (stepT c t n) ∧ timP t (fac c n) = some (stepT c t n) := by
  have h0 : 0 ≤ t.1 * (fac c n).1 := Int.mul_nonneg ht.nn f.nn
  have h1 : t.1 * (fac c n).1 ≤ t.2 * (fac c n).2 := Int.mul_le_mul ht.le f.le f.nn (Int.le_of_lt ht.pos)
  have h2 : 0 < t.2 * (fac c n).2 := Int.mul_pos ht.pos f.pos
  have b1 : t.2 < 2 ^ 145 := Int.lt_of_lt_of_le ht.bd (pow_le_pow (by omega))
  have b2 : t.1 < 2 ^ 145 := Int.lt_of_le_of_lt ht.le b1
  have b3 : (fac c n).1 < 2 ^ 24 := Int.lt_of_le_of_lt f.le f.bd
  have z1 : t.2 * (fac c n).2 ≤ t.2 * 2 ^ 24 := Int.mul_le_mul_of_nonneg_left (Int.le_of_lt f.bd) (Int.le_of_lt ht.pos)
  have b4 : t.2 * (fac c n).2 < 2 ^ 169 := by omega
  have b5 : t.1 * (fac c n).1 < 2 ^ 169 := Int.lt_of_le_of_lt h1 b4
  have o : (ok1 t && ok1 (fac c n)) = true := by
    simp only [ok1, Bool.and_eq_true, decide_eq_true_eq]
    have c1 := log_lt ht.nn b2 (by omega)
    have c2 := log_lt (Int.le_of_lt ht.pos) b1 (by omega)
    have c3 := log_lt f.nn b3 (by omega)
    have c4 := log_lt (Int.le_of_lt f.pos) f.bd (by omega)
    omega
  have l1 := log_lt h0 b5 (by omega)
  have l2 := log_lt (Int.le_of_lt h2) b4 (by omega)
  constructor
  · unfold timL
    rw [if_pos o]
    unfold lowL
    rw [if_pos ⟨h0, h2, by omega, by omega⟩]
    rfl
  · unfold timP
    rw [if_pos o]
    unfold lowP
    rw [if_pos ⟨by omega, by omega⟩]
    rfl
def bodyL : Sv := (sSeq (sSet 7 (eN lenC (eCons (eLc (.tp [(.nm 5), (.nm 6)]) (iSeq (vr 1)) (tB (e2 eqS (pk 6) (pk 4))) (kc (.int 1)) [5, 6]) eNil)))
  (sSet 3 (eCall M__law_times (eCons (vr 3) (eCons (eCall M__law_less (eCons (eCall M__law_power (eCons (eCall M__law_less (eCons (vr 2) eNil)) (eCons (vr 7) eNil))) eNil)) eNil)))))
def bodyQ : Sv := (sSet 3 (eCall M_times (eCons (vr 3) (eCons (eCall M_less_from_one (eCons (eCall M_to_power (eCons (eCall M_less_from_one (eCons (vr 2) eNil)) (eCons (vr 4) eNil))) eNil)) eNil))))
theorem chanceL_go {c : Fr} (hc : c ∈ cs) {A : D} {pl : PlT} (hp : pl.length ≤ 8) {S : Sto} : ∀ (k i : Nat) (t : Fr) (s4 s5 s6 s7 : Slot), i + k ≤ 6 → Tok i t →
    ∃ z4 z5 z6 z7, forGo (.nm 4) bodyL (upto i k) [.fz A, .fz (plD pl), .fz (fr c), .fz (fr t), s4, s5, s6, s7] S = .ok (.nx [.fz A, .fz (plD pl), .fz (fr c), .fz (fr (((List.range' i k).map (cnt pl)).foldl (stepT c) t)), z4, z5, z6, z7]) S
  | 0, i, t, s4, s5, s6, s7, _, _ => ⟨s4, s5, s6, s7, rfl⟩
  | k + 1, i, t, s4, s5, s6, s7, hk, ht => by
    have hn : cnt pl i ≤ 8 := Nat.le_trans (List.length_filter_le _ _) hp
    have f := fok hc hn
    obtain ⟨e1, _⟩ := step_L ht f (by omega)
    obtain ⟨z4, z5, z6, z7, ih⟩ := chanceL_go hc (A := A) hp (S := S) k (i + 1) (stepT c t (cnt pl i)) (.fz (.int i)) s5 s6 (.fz (.int (cnt pl i))) (by omega) (tok_step ht f).1
    refine ⟨z4, z5, z6, z7, ?_⟩
    have w : lcGo (.tp [(.nm 5), (.nm 6)]) (tB (e2 eqS (pk 6) (pk 4))) (kc (.int 1)) [5, 6] [.fz A, .fz (plD pl), .fz (fr c), .fz (fr t), .fz (.int i), s5, s6, s7] (pl.map eD) S = .ok (((pl.map eD).filter fun d => match d with
        | .tup [_, .int j] => decide (j = (i : Int))
        | _ => false).map fun _ => .int 1) S := by
      refine lcGo_pure _ _ _ fun d hd => ?_
      obtain ⟨q, _, rfl⟩ := List.mem_map.mp hd
      refine ⟨_, rfl, ?_, fun _ => rfl⟩
      simp -implicitDefEqProofs []
      rfl
    have w2 : (((pl.map eD).filter fun d => match d with
        | .tup [_, .int j] => decide (j = (i : Int))
        | _ => false).map fun _ => D.int 1).length = cnt pl i := by
      rw [List.length_map, List.filter_map, List.length_map]
      unfold cnt
      congr 1
      refine List.filter_congr fun q _ => ?_
      show decide ((q.2 : Int) = (i : Int)) = _
      by_cases h : q.2 = i
      · simp [h]
      · have h' : ¬ ((q.2 : Int) = (i : Int)) := by omega
        simp [h, h']
    have w3 : eLc (.tp [(.nm 5), (.nm 6)]) (iSeq (vr 1)) (tB (e2 eqS (pk 6) (pk 4))) (kc (.int 1)) [5, 6] [.fz A, .fz (plD pl), .fz (fr c), .fz (fr t), .fz (.int i), s5, s6, s7] S = .ok (.lst (((pl.map eD).filter fun d => match d with
        | .tup [_, .int j] => decide (j = (i : Int))
        | _ => false).map fun _ => .int 1)) S := by
      have hz : (pl.map eD).length ≤ zLine := by simp [zLine]; omega
      rw [eLc_at]
      have hi : iSeq (vr 1) [.fz A, .fz (plD pl), .fz (fr c), .fz (fr t), .fz (.int i), s5, s6, s7] S = .ok (pl.map eD) S := by
        unfold plD
        simp -implicitDefEqProofs []
      rw [hi, Res.bind_ok, eLc_k1_at, if_pos hz, w]
      rfl
    generalize (((pl.map eD).filter fun d => match d with
        | .tup [_, .int j] => decide (j = (i : Int))
        | _ => false).map fun _ => D.int 1) = W at w2 w3
    have hp2 := fun S : Sto => power_ok (S := S) f.pw (by omega)
    have ef : les (pw (les c) (cnt pl i)) = fac c (cnt pl i) := rfl
    have b1 : bodyL [.fz A, .fz (plD pl), .fz (fr c), .fz (fr t), .fz (.int i), s5, s6, s7] S = .ok (.nx [.fz A, .fz (plD pl), .fz (fr c), .fz (fr (stepT c t (cnt pl i))), .fz (.int i), s5, s6, .fz (.int (cnt pl i))]) S := by
      unfold bodyL
      simp -implicitDefEqProofs [w3, w2, less_ok, hp2, ef, times_ok e1]
    rw [upto_succ, forGo_nx rfl b1]
    rw [Int.natCast_add] at ih
    exact ih
theorem tok0 : Tok 0 (1, 1) := ⟨by decide, by decide, by decide, by decide⟩
theorem chanceL_ok {c : Fr} (hc : c ∈ cs) {many : Nat} {pl : PlT} (hp : pl.length ≤ 8) (hm : many ≤ 6) {S : Sto} : M__law_plan_chance [.fz (.int many), .fz (plD pl), .fz (fr c)] S = .ok (fr (foldT c (cnts many pl))) S := by
  obtain ⟨z4, z5, z6, z7, e⟩ := chanceL_go hc (A := .int many) hp (S := S) many 0 (1, 1) .un .un .un .un (by omega) tok0
  rw [show ((0 : Nat) : Int) = 0 from rfl, ← List.range_eq_range', ← fr_mk 1 1] at e
  have hB : B__law_plan_chance = (sSeq (sSet 3 (eTup (eCons (kc (.int 1)) (eCons (kc (.int 1)) eNil)))) (sSeq (sFor (.nm 4) (iRange (eCons (vr 0) eNil)) bodyL) (sRet (vr 3)))) := rfl
  rw [show M__law_plan_chance = fnM 5 B__law_plan_chance from rfl, hB]
  generalize bodyL = bb at e ⊢
  ((first | refine ok_ent ?_ | refine eq_ent ?_); simp -implicitDefEqProofs [rangeS_1 (i := (many : Int)) (by omega) (by omega), e])
  rfl
theorem chanceP_go {c : Fr} (hc : c ∈ cs) {A B : D} {S : Sto} : ∀ (ns : List Nat) (i : Nat) (t : Fr) (s4 : Slot), (∀ n ∈ ns, n ≤ 8) → i + ns.length ≤ 6 → Tok i t →
    ∃ z4, forGo (.nm 4) bodyQ (ns.map fun n => .int (n : Nat)) [.fz A, .fz B, .fz (fr c), .fz (fr t), s4] S = .ok (.nx [.fz A, .fz B, .fz (fr c), .fz (fr (ns.foldl (stepT c) t)), z4]) S
  | [], i, t, s4, _, _, _ => ⟨s4, rfl⟩
  | n :: ns, i, t, s4, hn, hk, ht => by
    have f := fok hc (hn n List.mem_cons_self)
    have hk' : i + (ns.length + 1) ≤ 6 := hk
    obtain ⟨_, e1⟩ := step_L ht f (by omega)
    obtain ⟨z4, ih⟩ := chanceP_go hc (A := A) (B := B) (S := S) ns (i + 1) (stepT c t n) (.fz (.int n)) (fun m hm => hn m (List.mem_cons_of_mem _ hm)) (by omega) (tok_step ht f).1
    refine ⟨z4, ?_⟩
    have ef : les (pw (les c) n) = fac c n := rfl
    have hn8 := hn n List.mem_cons_self
    have b1 : bodyQ [.fz A, .fz B, .fz (fr c), .fz (fr t), .fz (.int n)] S = .ok (.nx [.fz A, .fz B, .fz (fr c), .fz (fr (stepT c t n)), .fz (.int n)]) S := by
      unfold bodyQ
      simp -implicitDefEqProofs [less1_ok, to_power_ok f.sm (show n ≤ 1000 by omega), ef, timP_ok e1]
    rw [List.map_cons, forGo_nx rfl b1]
    exact ih
theorem planP_ok {c : Fr} (hc : c ∈ cs) {many : Nat} {pl : PlT} (hp : pl.length ≤ 100) (hn : ∀ n ∈ cnts many pl, n ≤ 8) (hm : many ≤ 6) {S : Sto} : M_plan_by [.fz (.int many), .fz (plD pl), .fz (fr c)] S = .ok (fr (foldT c (cnts many pl))) S := by
  obtain ⟨z4, e⟩ := chanceP_go hc (A := .int many) (B := plD pl) (S := S) (cnts many pl) 0 (1, 1) .un hn (by simp [cnts]; omega) tok0
  rw [← fr_mk 1 1] at e
  have hB : B_plan_by = (sSeq (sSet 3 (eTup (eCons (kc (.int 1)) (eCons (kc (.int 1)) eNil)))) (sSeq (sFor (.nm 4) (iSeq (eCall M_bearers_of (eCons (vr 0) (eCons (vr 1) eNil)))) bodyQ) (sRet (vr 3)))) := rfl
  rw [show M_plan_by = fnM 2 B_plan_by from rfl, hB]
  generalize bodyQ = bb at e ⊢
  ((first | refine ok_ent ?_ | refine eq_ent ?_); simp -implicitDefEqProofs [bearers_ok (many := many) hp (show many ≤ 100 by omega), e])
  rfl
theorem plan_chance_ok {c : Fr} (hc : c ∈ cs) {many : Nat} {pl : PlT} (h : VP many pl) (hn : ∀ n ∈ cnts many pl, n ≤ 8) (h1 : 1 ≤ many) (hm : many ≤ 6) {S : Sto} : M_plan_chance [.fz (.int many), .fz (plD pl), .fz (fr c)] S = .ok (fr (foldT c (cnts many pl))) S := by
  ((first | refine ok_ent ?_ | refine eq_ent ?_); simp -implicitDefEqProofs [B_plan_chance, check_plan_ok h h1 (by omega), comes_ok (cs_isC hc), planP_ok hc h.len hn hm])
end K63

set_option linter.all false
set_option maxRecDepth 100000
set_option maxHeartbeats 1000000
namespace K63
open DL
abbrev abxy : List Nat := [97, 98, 120, 121]
def good (x : List Nat) : Prop := x ≠ [] ∧ x.length ≤ 3 ∧ (∀ k ∈ x, k ∈ abxy) ∧ x ∉ kinds
theorem notIn_lst {S : Sto} {x : List Nat} {ks : List (List Nat)} : notInS S (.str x) (.lst (ks.map .str)) = some (.bl (!decide (x ∈ ks))) := notIn_strs (S := S)
theorem ok_name {c : Cell} {T : Sto} (n : Wst c) {s1 s3 s4 s5 s6 : Slot} : Ok ((eM .str joinM (kc (.str [])) (eCons (eLc (.nm 5) (iRange (eCons (e2 addS (kc (.int 1)) (eCall M__law_draw (eCons (vr 0) (eCons (kc (.int 3)) eNil)))) eNil)) tYes (eCall M__law_of (eCons (vr 0) (eCons (vr 2) eNil))) [5]) eNil)) [.fz (.obj 0), s1, .fz (.str abxy), s3, s4, s5, s6] (c :: T)) fun d S' => ∃ (x : List Nat) (c' : Cell), d = .str x ∧ x ≠ [] ∧ x.length ≤ 3 ∧ (∀ k ∈ x, k ∈ abxy) ∧ S' = c' :: T ∧ Wst c' := by
  refine ok_gen fun _ q => ?_
  simp -implicitDefEqProofs [eLc_at]
  refine bind_draw n (by omega) (by omega) fun f c1 hf n1 => ?_
  simp -implicitDefEqProofs [rangeS_1 (i := 1 + (f : Int)) (by omega) (by omega)]
  refine ok_bind (ok_lcK (fun rest acc S' => ∃ (x : List Nat) (c' : Cell), acc = x.map (fun k => D.str [k]) ∧ x.length + rest.length = 1 + f ∧ (∀ k ∈ x, k ∈ abxy) ∧ S' = c' :: T ∧ Wst c') ?_ ⟨[], _, rfl, by simp [upto]; omega, by simp, rfl, n1⟩ ?_) ?_
  · simp [upto, zLine]; omega
  · rintro d ds acc S ⟨x, c3, rfl, hl, hx, rfl, n3⟩
    refine ⟨_, rfl, fun _ q => ?_⟩
    simp -implicitDefEqProofs []
    refine ok_of (ok_of_str n3 (by simp) (by simp)) ?_
    rintro _ _ ⟨k, c4, hk, rfl, rfl, n4⟩
    refine q _ _ ⟨x ++ [k], c4, by simp, by simp at hl ⊢; omega, ?_, rfl, n4⟩
    intro k' hk'
    rcases List.mem_append.mp hk' with h | h
    · exact hx _ h
    · rw [List.mem_singleton.mp h]
      exact hk
  · rintro _ _ ⟨ys, rfl, x, c3, rfl, hl, hx, rfl, n3⟩
    simp at hl
    simp -implicitDefEqProofs [joinM_ones (show x.length ≤ zLine by simp [zLine]; omega)]
    exact ok_ok (q _ _ ⟨x, c3, rfl, by rintro rfl; simp at hl; omega, by omega, hx, rfl, n3⟩)
theorem ok_names {c : Cell} {T : Sto} {m : Nat} (n : Wst c) (hm : m ≤ 8) : Ok (M__law_names [.fz (.obj 0), .fz (.int m), .fz (.str abxy)] (c :: T)) fun d S' => ∃ (F : List (List Nat)) (c' : Cell), d = .tup (F.map .str) ∧ F.length ≤ m ∧ (∀ x ∈ F, good x) ∧ F.Pairwise (· < ·) ∧ S' = c' :: T ∧ Wst c' := by
  refine ok_gen fun _ q => ?_
  ((first | refine ok_ent ?_ | refine eq_ent ?_); simp -implicitDefEqProofs [B__law_names, rangeS_1])
  refine ok_bind (ok_for (fun rest ρ S' => ∃ (F : List (List Nat)) (c' : Cell) (s4 s5 s6 : Slot), ρ = [.fz (.obj 0), .fz (.int m), .fz (.str abxy), .ow (.lst (F.map .str)), s4, s5, s6] ∧ F.length ≤ m ∧ F.Nodup ∧ (∀ x ∈ F, good x) ∧ S' = c' :: T ∧ Wst c') ?_ ⟨[], _, _, _, _, rfl, by simp, by simp, by simp, rfl, n⟩) ?_
  · rintro d ds _ _ ⟨F, c', s4, s5, s6, rfl, hl, hN, hF, rfl, n'⟩
    refine ⟨_, rfl, fun _ q => ?_⟩
    simp only [List.set_cons_succ, List.set_cons_zero]
    rw [sSeq_at, sSet_at, bind_then]
    refine ok_bind (ok_name n') ?_
    rintro _ _ ⟨x, c2, rfl, h1, h2, h3, rfl, n2⟩
    obtain ⟨L, hL⟩ : ∃ L, L = (F ++ kinds).map D.str := ⟨_, rfl⟩
    have ha : ∀ S : Sto, addS S (.lst (F.map .str)) (.lst [.str [112, 111, 115, 116], .str [119, 97, 121], .str [98, 105, 114, 100]]) = some (.lst L) := fun S => by
      rw [addS_lst (by simp [zLine]; omega), hL, List.map_append]
      rfl
    have hni : ∀ S : Sto, notInS S (.str x) (.lst L) = some (.bl (!decide (x ∈ F ++ kinds))) := fun S => by rw [hL, notIn_lst]
    by_cases hlt : F.length < m
    · by_cases hin : x ∈ F ++ kinds
      · simp only [hin, decide_true, Bool.not_true] at hni
        simp -implicitDefEqProofs [hlt, ha, hni]
        exact ok_ok (q _ _ ⟨F, c2, _, _, _, rfl, hl, hN, hF, rfl, n2⟩).1
      · have hz : (F.map D.str).length < zLine := by simp [zLine]; omega
        simp only [hin, decide_false, Bool.not_false] at hni
        simp -implicitDefEqProofs [hlt, ha, hni, sApp_at, sAppL_ow, sAppK_at hz]
        have hin' : x ∉ F ∧ x ∉ kinds := by simpa using hin
        refine ok_ok (q _ _ ⟨F ++ [x], c2, .fz d, s5, .fz (.str x), by simp, by simp; omega, ?_, ?_, rfl, n2⟩).1
        · rw [List.nodup_append]
          refine ⟨hN, by simp, fun a ha b hb => ?_⟩
          rw [List.mem_singleton.mp hb]
          rintro rfl
          exact hin'.1 ha
        · intro y hy
          rcases List.mem_append.mp hy with h | h
          · exact hF _ h
          · rw [List.mem_singleton.mp h]
            exact ⟨h1, h2, h3, hin'.2⟩
    · simp -implicitDefEqProofs [hlt]
      exact ok_ok (q _ _ ⟨F, c2, _, _, _, rfl, hl, hN, hF, rfl, n2⟩).1
  · intro f4 S4 h4
    obtain ⟨_, rfl, F, c', s4, s5, s6, rfl, hl, hN, hF, rfl, n'⟩ := h4
    have hs : ∀ S : Sto, sortedC S [.lst (F.map .str)] = some (.lst ((sortT F).map .str)) := fun S => by
      show (txs (F.map .str)).bind _ = _
      rw [txs_strs]
      show (if _ then _ else _) = _
      rw [if_pos (by omega)]
    simp -implicitDefEqProofs [hs]
    have hp : (sortT F).Perm F := sortT_perm
    refine ok_ok (q _ _ ⟨sortT F, c', rfl, by rw [hp.length_eq]; exact hl, fun x hx => hF x (hp.mem_iff.mp hx), ?_, rfl, n'⟩)
    have h1 : (sortT F).Pairwise (· ≤ ·) := sortT_pw
    have h2 : (sortT F).Nodup := hp.nodup_iff.mpr hN
    exact (h1.and h2).imp fun {a b} h => by
      rcases Classical.em (a < b) with z | z
      · exact z
      · exact absurd (List.le_antisymm h.1 (List.not_lt.mp z)) h.2
theorem ok_plan {c : Cell} {T : Sto} {many : Nat} (n : Wst c) (h1 : 1 ≤ many) (h2 : many ≤ 5) : Ok (M__law_plan [.fz (.obj 0), .fz (.int many)] (c :: T)) fun d S' => ∃ (pl : PlT) (c' : Cell), d = plD pl ∧ pl.length ≤ 7 ∧ (∀ q ∈ pl, good q.1 ∧ q.2 < many) ∧ (pl.Pairwise fun a b => a.1 < b.1) ∧ S' = c' :: T ∧ Wst c' := by
  refine ok_gen fun _ q => ?_
  ((first | refine ok_ent ?_ | refine eq_ent ?_); simp -implicitDefEqProofs [B__law_plan])
  refine bind_draw n (by omega) (by omega) fun f c1 hf n1 => ?_
  simp -implicitDefEqProofs []
  refine ok_bind (ok_names (m := f) n1 (by omega)) ?_
  rintro _ _ ⟨F, c2, rfl, hl, hF, hP, rfl, n2⟩
  simp -implicitDefEqProofs [eLc_at]
  refine ok_bind (ok_lcK (fun rest acc S' => ∃ (pl : PlT) (R : List (List Nat)) (c' : Cell), acc = pl.map eD ∧ rest = R.map .str ∧ pl.map (·.1) ++ R = F ∧ (∀ q ∈ pl, q.2 < many) ∧ S' = c' :: T ∧ Wst c') ?_ ⟨[], F, c2, rfl, rfl, rfl, by simp, rfl, n2⟩ ?_) ?_
  · simp [zLine]; omega
  · rintro d ds acc S ⟨pl, R, c3, rfl, hR, hFe, hq, rfl, n3⟩
    cases R with
    | nil => cases hR
    | cons x R =>
      rw [List.map_cons] at hR
      obtain ⟨rfl, rfl⟩ := List.cons.inj hR
      refine ⟨_, rfl, fun _ q => ?_⟩
      simp -implicitDefEqProofs []
      refine bind_draw n3 (by omega) (by omega) fun p c4 hp n4 => ?_
      simp -implicitDefEqProofs []
      refine ok_ok (q _ _ ⟨pl ++ [(x, p)], R, c4, ?_, rfl, ?_, ?_, rfl, n4⟩)
      · simp [eD]
      · rw [← hFe]; simp
      · intro y hy
        rcases List.mem_append.mp hy with h | h
        · exact hq _ h
        · rw [List.mem_singleton.mp h]
          omega
  · intro d4 S4 h4
    obtain ⟨ys, rfl, pl, R, c3, rfl, hR, hFe, hq, rfl, n3⟩ := h4
    have hR : R = [] := by
      cases R with
      | nil => rfl
      | cons => cases hR
    subst hR
    rw [List.append_nil] at hFe
    simp -implicitDefEqProofs []
    have hm : ∀ q ∈ pl, q.1 ∈ F := fun q hq => by rw [← hFe]; exact List.mem_map.mpr ⟨q, hq, rfl⟩
    refine ok_ok (q _ _ ⟨pl, c3, rfl, ?_, fun y hy => ⟨hF _ (hm y hy), hq y hy⟩, ?_, rfl, n3⟩)
    · have := congrArg List.length hFe
      rw [List.length_map] at this
      omega
    · rw [← hFe, List.pairwise_map] at hP
      exact hP
theorem good_name {x : List Nat} (h : good x) : nameOk x := by
  obtain ⟨h1, h2, h3, h4⟩ := h
  refine ⟨h1, fun k hk => ?_, by omega, h4⟩
  have := h3 k hk
  simp at this ⊢
  omega
theorem good_zz {x : List Nat} (h : good x) : x < [122, 122] := by
  obtain ⟨h1, h2, h3, h4⟩ := h
  cases x with
  | nil => exact absurd rfl h1
  | cons k r =>
    have := h3 k List.mem_cons_self
    simp at this
    exact List.cons_lt_cons_iff.mpr (.inl (by omega))
theorem plan_vp {many : Nat} {pl : PlT} (hl : pl.length ≤ 7) (h : ∀ q ∈ pl, good q.1 ∧ q.2 < many) (hP : pl.Pairwise fun a b => a.1 < b.1) : VP many pl :=
  ⟨by omega, fun q hq => ⟨good_name (h q hq).1, (h q hq).2⟩, hP⟩
theorem plan_vpz {many p : Nat} {pl : PlT} (hl : pl.length ≤ 7) (h : ∀ q ∈ pl, good q.1 ∧ q.2 < many) (hP : pl.Pairwise fun a b => a.1 < b.1) (hp : p < many) : VP many (pl ++ [([122, 122], p)]) := by
  refine ⟨by simp; omega, fun q hq => ?_, ?_⟩
  · rcases List.mem_append.mp hq with h1 | h1
    · exact ⟨good_name (h q h1).1, (h q h1).2⟩
    · rw [List.mem_singleton.mp h1]
      exact ⟨⟨by simp, by simp, by simp, by show [122, 122] ∉ kinds; decide⟩, hp⟩
  · rw [List.pairwise_append]
    refine ⟨hP, by simp, fun a ha b hb => ?_⟩
    rw [List.mem_singleton.mp hb]
    exact good_zz (h a ha).1
theorem cnt_le {pl : PlT} {k : Nat} : cnt pl k ≤ pl.length := List.length_filter_le _ _
theorem cnts_le {pl : PlT} {many : Nat} (h : pl.length ≤ 8) : ∀ n ∈ cnts many pl, n ≤ 8 := by
  intro n hn
  obtain ⟨k, _, rfl⟩ := List.mem_map.mp hn
  exact Nat.le_trans cnt_le h
/-! one bird more -/
theorem cnt_snoc {pl : PlT} {x : List Nat} {p k : Nat} : cnt (pl ++ [(x, p)]) k = cnt pl k + if k = p then 1 else 0 := by
  unfold cnt
  rw [List.filter_append, List.length_append]
  by_cases h : k = p
  · simp [h]
  · have : ¬ p = k := fun e => h e.symm
    simp [h, this]
theorem cnts_split {pl : PlT} {x : List Nat} {p many : Nat} (hp : p < many) : ∃ l1 l2, cnts many pl = l1 ++ cnt pl p :: l2 ∧ cnts many (pl ++ [(x, p)]) = l1 ++ (cnt pl p + 1) :: l2 := by
  have hr : List.range many = List.range p ++ p :: List.range' (p + 1) (many - p - 1) := by
    rw [List.range_eq_range', List.range_eq_range']
    have e1 : many = p + ((many - p - 1) + 1) := by omega
    conv => lhs; rw [e1]
    rw [← List.range'_append_1, List.range'_succ]
    simp
  refine ⟨(List.range p).map (cnt pl), (List.range' (p + 1) (many - p - 1)).map (cnt pl), ?_, ?_⟩
  · unfold cnts
    rw [hr, List.map_append, List.map_cons]
  · unfold cnts
    rw [hr, List.map_append, List.map_cons]
    congr 1
    · refine List.map_congr_left fun k hk => ?_
      have := List.mem_range.mp hk
      rw [cnt_snoc, if_neg (by omega), Nat.add_zero]
    · congr 1
      · rw [cnt_snoc, if_pos rfl]
      · refine List.map_congr_left fun k hk => ?_
        have := List.mem_range'_1.mp hk
        rw [cnt_snoc, if_neg (by omega), Nat.add_zero]
def PN (c : Fr) (ns : List Nat) : Int := (ns.map fun n => (fac c n).1).foldr (· * ·) 1
def PD (c : Fr) (ns : List Nat) : Int := (ns.map fun n => (fac c n).2).foldr (· * ·) 1
theorem PN_cons {c : Fr} {n : Nat} {ns : List Nat} : PN c (n :: ns) = (fac c n).1 * PN c ns := rfl
theorem PD_cons {c : Fr} {n : Nat} {ns : List Nat} : PD c (n :: ns) = (fac c n).2 * PD c ns := rfl
theorem PN_app {c : Fr} {l2 : List Nat} : ∀ l1 : List Nat, PN c (l1 ++ l2) = PN c l1 * PN c l2
  | [] => by show _ = 1 * _; rw [Int.one_mul]; rfl
  | n :: l1 => by rw [List.cons_append, PN_cons, PN_cons, PN_app l1, Int.mul_assoc]
theorem PD_app {c : Fr} {l2 : List Nat} : ∀ l1 : List Nat, PD c (l1 ++ l2) = PD c l1 * PD c l2
  | [] => by show _ = 1 * _; rw [Int.one_mul]; rfl
  | n :: l1 => by rw [List.cons_append, PD_cons, PD_cons, PD_app l1, Int.mul_assoc]
theorem PN_nn {c : Fr} : ∀ ns : List Nat, (∀ n ∈ ns, FOk c n) → 0 ≤ PN c ns
  | [], _ => by show (0 : Int) ≤ 1; decide
  | n :: ns, h => by rw [PN_cons]; exact Int.mul_nonneg (h n List.mem_cons_self).nn (PN_nn ns fun m hm => h m (List.mem_cons_of_mem _ hm))
theorem PD_pos {c : Fr} : ∀ ns : List Nat, (∀ n ∈ ns, FOk c n) → 0 < PD c ns
  | [], _ => by show (0 : Int) < 1; decide
  | n :: ns, h => by rw [PD_cons]; exact Int.mul_pos (h n List.mem_cons_self).pos (PD_pos ns fun m hm => h m (List.mem_cons_of_mem _ hm))
theorem fold_ratio {c : Fr} : ∀ (ns : List Nat) (k : Nat) (t : Fr), Tok k t → (∀ n ∈ ns, FOk c n) → Tok (k + ns.length) (ns.foldl (stepT c) t) ∧ (ns.foldl (stepT c) t).1 * (t.2 * PD c ns) = t.1 * PN c ns * (ns.foldl (stepT c) t).2
  | [], k, t, ht, _ => ⟨ht, by show t.1 * (t.2 * 1) = t.1 * 1 * t.2; rw [Int.mul_one, Int.mul_one]⟩
  | n :: ns, k, t, ht, h => by
    obtain ⟨a1, a2⟩ := tok_step ht (h n List.mem_cons_self)
    obtain ⟨b1, b2⟩ := fold_ratio ns (k + 1) (stepT c t n) a1 fun m hm => h m (List.mem_cons_of_mem _ hm)
    refine ⟨by rw [List.length_cons, show k + (ns.length + 1) = k + 1 + ns.length by omega]; exact b1, ?_⟩
    rw [List.foldl_cons, PN_cons, PD_cons]
    generalize ns.foldl (stepT c) (stepT c t n) = r at b2 ⊢
    generalize stepT c t n = u at a1 a2 b2
    generalize fac c n = f at a2 ⊢
    generalize PD c ns = D1 at b2 ⊢
    generalize PN c ns = N1 at b2 ⊢
    -- r.1 * (u.2 * D1) = u.1 * N1 * r.2 ; u.1 * (t.2 * f.2) = t.1 * f.1 * u.2
    have hu : u.2 ≠ 0 := Int.ne_of_gt a1.pos
    refine Int.eq_of_mul_eq_mul_right hu ?_
    have e1 : r.1 * (t.2 * (f.2 * D1)) * u.2 = (r.1 * (u.2 * D1)) * (t.2 * f.2) := by
      simp only [Int.mul_assoc, Int.mul_comm, Int.mul_left_comm]
    have e2 : t.1 * (f.1 * N1) * r.2 * u.2 = (t.1 * f.1 * u.2) * (N1 * r.2) := by
      simp only [Int.mul_assoc, Int.mul_comm, Int.mul_left_comm]
    have e3 : u.1 * N1 * r.2 * (t.2 * f.2) = (u.1 * (t.2 * f.2)) * (N1 * r.2) := by
      simp only [Int.mul_assoc, Int.mul_comm, Int.mul_left_comm]
    rw [e1, b2, e2, e3, a2]
theorem more_ok {c : Fr} {l1 l2 : List Nat} {n : Nat} (h1 : ∀ m ∈ l1, FOk c m) (h2 : ∀ m ∈ l2, FOk c m) (h3 : FOk c n) (h4 : FOk c (n + 1)) :
    ¬ (foldT c (l1 ++ (n + 1) :: l2)).1 * (foldT c (l1 ++ n :: l2)).2 < (foldT c (l1 ++ n :: l2)).1 * (foldT c (l1 ++ (n + 1) :: l2)).2 := by
  have al : ∀ k, FOk c k → ∀ m ∈ l1 ++ k :: l2, FOk c m := fun k hk m hm => by
    rcases List.mem_append.mp hm with h | h
    · exact h1 m h
    · rcases List.mem_cons.mp h with rfl | h
      · exact hk
      · exact h2 m h
  obtain ⟨a1, a2⟩ := fold_ratio (l1 ++ n :: l2) 0 (1, 1) tok0 (al n h3)
  obtain ⟨b1, b2⟩ := fold_ratio (l1 ++ (n + 1) :: l2) 0 (1, 1) tok0 (al (n + 1) h4)
  have hup := h3.up
  rw [PN_app, PD_app, PN_cons, PD_cons] at a2 b2
  have nA : 0 ≤ PN c l1 * PN c l2 := Int.mul_nonneg (PN_nn l1 h1) (PN_nn l2 h2)
  have pB : 0 < PD c l1 * PD c l2 := Int.mul_pos (PD_pos l1 h1) (PD_pos l2 h2)
  have p1 := h3.pos
  have p2 := h4.pos
  have q1 := a1.pos
  have q2 := b1.pos
  unfold foldT
  generalize (l1 ++ n :: l2).foldl (stepT c) (1, 1) = d at a1 a2 q1 ⊢
  generalize (l1 ++ (n + 1) :: l2).foldl (stepT c) (1, 1) = e at b1 b2 q2 ⊢
  generalize fac c n = f at *
  generalize fac c (n + 1) = g at *
  generalize PN c l1 = A1 at *
  generalize PN c l2 = A2 at *
  generalize PD c l1 = B1 at *
  generalize PD c l2 = B2 at *
  simp only [Int.one_mul] at a2 b2
  -- d.1 * (B1*(f.2*B2)) = A1*(f.1*A2) * d.2
  refine Int.not_lt.mpr ?_
  have hK : 0 < (B1 * B2 * f.2) * (B1 * B2 * g.2) := Int.mul_pos (Int.mul_pos pB p1) (Int.mul_pos pB p2)
  refine Int.le_of_mul_le_mul_right ?_ hK
  have l : d.1 * e.2 * ((B1 * B2 * f.2) * (B1 * B2 * g.2)) = (A1 * A2 * (B1 * B2) * (d.2 * e.2)) * (f.1 * g.2) := by
    have : d.1 * e.2 * ((B1 * B2 * f.2) * (B1 * B2 * g.2)) = (d.1 * (B1 * (f.2 * B2))) * (e.2 * (B1 * B2 * g.2)) := by
      simp only [Int.mul_assoc, Int.mul_comm, Int.mul_left_comm]
    rw [this, a2]
    simp only [Int.mul_assoc, Int.mul_comm, Int.mul_left_comm]
  have r : e.1 * d.2 * ((B1 * B2 * f.2) * (B1 * B2 * g.2)) = (A1 * A2 * (B1 * B2) * (d.2 * e.2)) * (g.1 * f.2) := by
    have : e.1 * d.2 * ((B1 * B2 * f.2) * (B1 * B2 * g.2)) = (e.1 * (B1 * (g.2 * B2))) * (d.2 * (B1 * B2 * f.2)) := by
      simp only [Int.mul_assoc, Int.mul_comm, Int.mul_left_comm]
    rw [this, b2]
    simp only [Int.mul_assoc, Int.mul_comm, Int.mul_left_comm]
  rw [l, r]
  exact Int.mul_le_mul_of_nonneg_left hup (Int.mul_nonneg (Int.mul_nonneg nA (Int.le_of_lt pB)) (Int.le_of_lt (Int.mul_pos q1 q2)))
end K63

set_option linter.all false
set_option maxRecDepth 100000
set_option maxHeartbeats 1000000
namespace K63
open DL
def bodyZ : Sv := (sSeq (sSet 6 (eCall M_plan_chance (eCons (vr 2) (eCons (e2 addS (pk 7) (eTup (eCons (eTup (eCons (kc (.str [122, 122])) (eCons (vr 8) eNil))) eNil))) (eCons (vr 3) eNil)))))
  (sIf (tB (e2 ltS (e2 mulS (e2 ixS (pk 6) (kc (.int 0))) (e2 ixS (pk 5) (kc (.int 1)))) (e2 mulS (e2 ixS (pk 5) (kc (.int 0))) (e2 ixS (pk 6) (kc (.int 1)))))) (sRet (kc (.bl false))) sNil))
def bodyO : Sv := (sSeq (sPar3 2 3 4 (e2 addS (kc (.int 1)) (eCall M__law_draw (eCons (vr 0) (eCons (kc (.int 5)) eNil)))) (eCall M__law_comes (eCons (vr 0) eNil)) (eCall M__law_draw (eCons (vr 0) (eCons (kc (.int 7)) eNil))))
  (sSeq (sSet 5 (eCall M__law_within (eCons (vr 2) (eCons (vr 3) (eCons (vr 4) eNil)))))
  (sSeq (sIf (tNot (tT (eCall (M__law_same 8) (eCons (eTup (eCons (eCall M_told_within (eCons (vr 2) (eCons (vr 3) (eCons (vr 4) eNil)))) (eCons (eCallK M_told_within [2, 1, 0] eNil (eCons (vr 4) (eCons (vr 3) (eCons (vr 2) eNil)))) eNil))) (eCons (eTup (eCons (vr 5) (eCons (vr 5) eNil))) eNil))))) (sRet (kc (.bl false))) sNil)
  (sSeq (sSet 6 (eCall M_told_within (eCons (vr 2) (eCons (vr 3) (eCons (e2 addS (pk 4) (kc (.int 1))) eNil)))))
  (sSeq (sIf (tOr (tB (e2 ltS (e2 mulS (e2 ixS (pk 6) (kc (.int 0))) (e2 ixS (pk 5) (kc (.int 1)))) (e2 mulS (e2 ixS (pk 5) (kc (.int 0))) (e2 ixS (pk 6) (kc (.int 1)))))) (tB (e2 neS (eCall M_told_within (eCons (vr 2) (eCons (vr 3) (eCons (kc (.int 0)) eNil)))) (eTup (eCons (kc (.int 0)) (eCons (kc (.int 1)) eNil)))))) (sRet (kc (.bl false))) sNil)
  (sSeq (sSet 7 (eCall M__law_plan (eCons (vr 0) (eCons (vr 2) eNil))))
  (sSeq (sSet 5 (eCall M__law_plan_chance (eCons (vr 2) (eCons (vr 7) (eCons (vr 3) eNil)))))
  (sSeq (sIf (tNot (tT (eCall (M__law_same 8) (eCons (eTup (eCons (eCall M_plan_chance (eCons (vr 2) (eCons (vr 7) (eCons (vr 3) eNil)))) (eCons (eCallK M_plan_chance [2, 1, 0] eNil (eCons (vr 3) (eCons (vr 7) (eCons (vr 2) eNil)))) eNil))) (eCons (eTup (eCons (vr 5) (eCons (vr 5) eNil))) eNil))))) (sRet (kc (.bl false))) sNil)
  (sSeq (sFor (.nm 8) (iRange (eCons (vr 2) eNil)) bodyZ)
  (sSeq (sSet 10 (eN tupleC (eCons (eLc (.nm 9) (iStr (kc (.str [97, 98, 99, 100, 101, 102, 103, 104, 105, 106]))) tYes (e2 addS (kc (.str [98])) (pk 9)) [9]) eNil)))
  (sSeq (sIf (tNot (tT (eCall (M__law_same 8) (eCons (eTup (eCons (eCall M_plan_chance (eCons (vr 2) (eCons (eCall M_even_plan (eCons (vr 2) (eCons (eCut (pk 10) oNone (oSome (pk 2))) eNil))) (eCons (vr 3) eNil)))) (eCons (eCall M_told_within (eCons (vr 2) (eCons (vr 3) (eCons (kc (.int 1)) eNil)))) eNil))) (eCons (e2 mulS (eTup (eCons (eCall M__law_power (eCons (vr 3) (eCons (vr 2) eNil))) eNil)) (kc (.int 2))) eNil))))) (sRet (kc (.bl false))) sNil)
  (sSeq (sSet 11 (eCall M_even_plan (eCons (vr 2) (eCons (eCut (pk 10) oNone (oSome (e2 mulS (kc (.int 2)) (pk 2)))) eNil))))
  (sIf (tNot (tT (eCall (M__law_same 8) (eCons (eTup (eCons (eCall M_plan_chance (eCons (vr 2) (eCons (vr 11) (eCons (vr 3) eNil)))) (eCons (eCall M_told_within (eCons (vr 2) (eCons (vr 3) (eCons (kc (.int 2)) eNil)))) eNil))) (eCons (e2 mulS (eTup (eCons (eCall M__law_within (eCons (vr 2) (eCons (vr 3) (eCons (kc (.int 2)) eNil)))) eNil)) (kc (.int 2))) eNil))))) (sRet (kc (.bl false))) sNil)))))))))))))
def tailO : Sv := (sRet (eCall (M__law_same 8) (eCons (eTup (eCons (eCall M_told_within (eCons (kc (.int 2)) (eCons (eTup (eCons (kc (.int 1)) (eCons (kc (.int 2)) eNil))) (eCons (kc (.int 2)) eNil)))) (eCons (eCall M_plan_chance (eCons (kc (.int 2)) (eCons (eTup (eCons (eTup (eCons (kc (.str [97, 100, 97])) (eCons (kc (.int 0)) eNil))) eNil)) (eCons (eTup (eCons (kc (.int 1)) (eCons (kc (.int 2)) eNil))) eNil)))) eNil))) (eCons (eTup (eCons (eTup (eCons (kc (.int 9)) (eCons (kc (.int 16)) eNil))) (eCons (eTup (eCons (kc (.int 0)) (eCons (kc (.int 1)) eNil))) eNil))) eNil))))
def bn : List (List Nat) := [[98, 97], [98, 98], [98, 99], [98, 100], [98, 101], [98, 102], [98, 103], [98, 104], [98, 105], [98, 106]]
def evP (many k : Nat) : PlT := (bn.take k).zipIdx.map fun q => (q.1, q.2 % many)
theorem even_ok {many : Nat} {S : Sto} (h1 : 1 ≤ many) (h5 : many ≤ 5) : M_even_plan [.fz (.int many), .fz (.tup ((bn.take many).map .str))] S = .ok (plD (evP many many)) S ∧ M_even_plan [.fz (.int many), .fz (.tup ((bn.take (2 * many)).map .str))] S = .ok (plD (evP many (2 * many))) S := by
  have : many = 1 ∨ many = 2 ∨ many = 3 ∨ many = 4 ∨ many = 5 := by omega
  rcases this with rfl | rfl | rfl | rfl | rfl <;> exact ⟨by kernel_rfl, by kernel_rfl⟩
theorem ev_vp {many : Nat} (h1 : 1 ≤ many) (h5 : many ≤ 5) : VP many (evP many many) ∧ VP many (evP many (2 * many)) ∧ cnts many (evP many many) = List.replicate many 1 ∧ cnts many (evP many (2 * many)) = List.replicate many 2 := by
  have : many = 1 ∨ many = 2 ∨ many = 3 ∨ many = 4 ∨ many = 5 := by omega
  rcases this with rfl | rfl | rfl | rfl | rfl <;> exact ⟨⟨by decide +kernel, by unfold nameOk; decide +kernel, by decide +kernel⟩, ⟨by decide +kernel, by unfold nameOk; decide +kernel, by decide +kernel⟩, by decide +kernel, by decide +kernel⟩
def chk1 (many : Nat) (c : Fr) (rounds : Nat) : Option Unit :=
  (withinL many c rounds).bind fun w => (withinP many c rounds).bind fun w2 => (withinP many c (rounds + 1)).bind fun more => (withinP many c 0).bind fun z => (powL c many).bind fun x => (withinP many c 1).bind fun x2 => (withinL many c 2).bind fun y => (withinP many c 2).bind fun y2 =>
  need ((w2 == w) && (z == (0, 1)) && (x2 == x) && (y2 == y) && (foldT c (List.replicate many 1) == x) && (foldT c (List.replicate many 2) == y) && ok1 w && ok1 more && !decide (more.1 * w.2 < w.1 * more.2))
theorem chk1_all : ((List.range 5).all fun m => cs.all fun c => (List.range 7).all fun r => (chk1 (m + 1) c r).isSome) = true := by decide +kernel
theorem mul2 {S : Sto} {p : Fr} : mulS S (.tup [fr p]) (.int 2) = some (.tup [fr p, fr p]) := by
  have h : (if (2 : Int) ≤ 2 ∧ (2 : Int) ≤ 1000 ∧ [fr p].length ≤ 1000 ∧ [fr p].isEmpty = false then some (D.tup (rep [fr p] (2 : Int).toNat)) else none) = some (.tup [fr p, fr p]) := by
    rw [if_pos (by simp)]
    rfl
  exact h
theorem cut_take {α : Type} {xs : List α} {k : Nat} : cut xs none (some (k : Int)) = xs.take k := by
  unfold cut
  rw [sIx_none, sIx_pos (by omega)]
  simp
end K63

set_option linter.all false
set_option maxRecDepth 100000
set_option maxHeartbeats 1000000
namespace K63
open DL
theorem addS_pl {S : Sto} {pl : PlT} {p : Nat} (h : pl.length ≤ 100) : addS S (plD pl) (.tup [.tup [.str [122, 122], .int p]]) = some (plD (pl ++ [([122, 122], p)])) := by
  unfold plD
  rw [addS_tup (by simp [zLine]; omega), List.map_append]
  rfl
theorem low_ok1 {p : Fr} {k : Nat} (h : Tok k p) (hk : k ≤ 6) : p.1.natAbs.log2 < 1000 ∧ p.2.natAbs.log2 < 1000 := by
  have b1 : p.2 < 2 ^ 145 := Int.lt_of_lt_of_le h.bd (pow_le_pow (by omega))
  have b2 : p.1 < 2 ^ 145 := Int.lt_of_le_of_lt h.le b1
  have c1 := log_lt h.nn b2 (by omega)
  have c2 := log_lt (Int.le_of_lt h.pos) b1 (by omega)
  omega
theorem partsZ {c : Fr} (hc : c ∈ cs) {many : Nat} {pl : PlT} (h1 : 1 ≤ many) (h5 : many ≤ 5) (hl : pl.length ≤ 7) (hg : ∀ q ∈ pl, good q.1 ∧ q.2 < many) (hP : pl.Pairwise fun a b => a.1 < b.1) {s0 s1 s4 s9 s10 s11 : Slot} {S : Sto} :
    ∀ (k p : Nat) (s6 s8 : Slot), p + k ≤ many → ∃ z6 z8, forGo (.nm 8) bodyZ (upto p k) [s0, s1, .fz (.int many), .fz (fr c), s4, .fz (fr (foldT c (cnts many pl))), s6, .fz (plD pl), s8, s9, s10, s11] S = .ok (.nx [s0, s1, .fz (.int many), .fz (fr c), s4, .fz (fr (foldT c (cnts many pl))), z6, .fz (plD pl), z8, s9, s10, s11]) S
  | 0, p, s6, s8, _ => ⟨s6, s8, rfl⟩
  | k + 1, p, s6, s8, hp => by
    have hv := plan_vpz hl hg hP (p := p) (by omega)
    have hle : ∀ n ∈ cnts many (pl ++ [([122, 122], p)]), n ≤ 8 := cnts_le (by simp; omega)
    have hle0 : ∀ n ∈ cnts many pl, n ≤ 8 := cnts_le (by omega)
    obtain ⟨l1, l2, e1, e2⟩ := cnts_split (pl := pl) (x := [122, 122]) (p := p) (many := many) (by omega)
    have hno : ¬ (foldT c (cnts many (pl ++ [([122, 122], p)]))).1 * (foldT c (cnts many pl)).2 < (foldT c (cnts many pl)).1 * (foldT c (cnts many (pl ++ [([122, 122], p)]))).2 := by
      rw [e1, e2]
      rw [e1] at hle0
      rw [e2] at hle
      exact more_ok (fun m hm => fok hc (hle0 m (List.mem_append_left _ hm))) (fun m hm => fok hc (hle0 m (List.mem_append_right _ (List.mem_cons_of_mem _ hm)))) (fok hc (hle0 _ (by simp))) (fok hc (hle _ (by simp)))
    have t1 := (fold_ratio (cnts many pl) 0 (1, 1) tok0 fun m hm => fok hc (hle0 m hm)).1
    have t2 := (fold_ratio (cnts many (pl ++ [([122, 122], p)])) 0 (1, 1) tok0 fun m hm => fok hc (hle m hm)).1
    have len : ∀ pl : PlT, 0 + (cnts many pl).length ≤ 6 := fun pl => by simp [cnts]; omega
    obtain ⟨o1, o2⟩ := low_ok1 (p := foldT c (cnts many pl)) t1 (len _)
    obtain ⟨o3, o4⟩ := low_ok1 (p := foldT c (cnts many (pl ++ [([122, 122], p)]))) t2 (len _)
    have hpc := fun S : Sto => plan_chance_ok hc hv hle h1 (by omega) (S := S)
    obtain ⟨z6, z8, ih⟩ := partsZ hc h1 h5 hl hg hP (s0 := s0) (s1 := s1) (s4 := s4) (s9 := s9) (s10 := s10) (s11 := s11) (S := S) k (p + 1) (.fz (fr (foldT c (cnts many (pl ++ [([122, 122], p)]))))) (.fz (.int p)) (by omega)
    refine ⟨z6, z8, ?_⟩
    have b1 : bodyZ [s0, s1, .fz (.int many), .fz (fr c), s4, .fz (fr (foldT c (cnts many pl))), s6, .fz (plD pl), .fz (.int p), s9, s10, s11] S
        = .ok (.nx [s0, s1, .fz (.int many), .fz (fr c), s4, .fz (fr (foldT c (cnts many pl))), .fz (fr (foldT c (cnts many (pl ++ [([122, 122], p)])))), .fz (plD pl), .fz (.int p), s9, s10, s11]) S := by
      unfold bodyZ
      have ha := fun S : Sto => addS_pl (S := S) (pl := pl) (p := p) (by omega)
      generalize foldT c (cnts many (pl ++ [([122, 122], p)])) = e at hno o3 o4 hpc ⊢
      generalize foldT c (cnts many pl) = d at hno o1 o2 ⊢
      generalize plD (pl ++ [([122, 122], p)]) = pz at ha hpc
      simp -implicitDefEqProofs [ha, hpc, mul_ok o3 o2, mul_ok o1 o4, hno]
    rw [upto_succ, forGo_nx rfl b1]
    rw [Int.natCast_add] at ih
    exact ih
theorem bodyO_ok {c0 : Cell} {T : Sto} {s1 s2 s3 s4 s5 s6 s7 s8 s9 s10 s11 : Slot} (n : Wst c0) :
    Ok (bodyO [.fz (.obj 0), s1, s2, s3, s4, s5, s6, s7, s8, s9, s10, s11] (c0 :: T)) fun f S' => ∃ (c' : Cell) (z2 z3 z4 z5 z6 z7 z8 z9 z10 z11 : Slot), f = .nx [.fz (.obj 0), s1, z2, z3, z4, z5, z6, z7, z8, z9, z10, z11] ∧ S' = c' :: T ∧ Wst c' := by
  refine ok_gen fun _ q => ?_
  unfold bodyO
  simp -implicitDefEqProofs []
  refine bind_draw n (by omega) (by omega) fun f c1 hf n1 => ?_
  simp -implicitDefEqProofs []
  refine bind_comes n1 fun c c2 hcs n2 => ?_
  simp -implicitDefEqProofs []
  refine bind_draw n2 (by omega) (by omega) fun rounds c3 hr n3 => ?_
  have hc := cs_isC hcs
  have w1 : ∀ m ∈ List.range 5, (cs.all fun c => (List.range 7).all fun r => (chk1 (m + 1) c r).isSome) = true := List.all_eq_true.mp chk1_all
  have w2 : ∀ x ∈ cs, ((List.range 7).all fun r => (chk1 (f + 1) x r).isSome) = true := List.all_eq_true.mp (w1 f (List.mem_range.mpr (by omega)))
  have w3 : ∀ r ∈ List.range 7, (chk1 (f + 1) c r).isSome = true := List.all_eq_true.mp (w2 c hcs)
  obtain ⟨u, hk⟩ := Option.isSome_iff_exists.mp (w3 rounds (List.mem_range.mpr (by omega)))
  clear w1 w2 w3
  obtain ⟨many, hm⟩ : ∃ many : Nat, many = f + 1 := ⟨_, rfl⟩
  rw [← hm] at hk
  have em : (1 : Int) + (f : Int) = (many : Int) := by omega
  have h1 : 1 ≤ many := by omega
  have h5 : many ≤ 5 := by omega
  clear hm
  unfold chk1 at hk
  obtain ⟨w, k1, hk⟩ := Option.bind_eq_some_iff.mp hk
  obtain ⟨w', k2, hk⟩ := Option.bind_eq_some_iff.mp hk
  obtain ⟨more, k3, hk⟩ := Option.bind_eq_some_iff.mp hk
  obtain ⟨z, k4, hk⟩ := Option.bind_eq_some_iff.mp hk
  obtain ⟨x, k5, hk⟩ := Option.bind_eq_some_iff.mp hk
  obtain ⟨x', k6, hk⟩ := Option.bind_eq_some_iff.mp hk
  obtain ⟨y, k7, hk⟩ := Option.bind_eq_some_iff.mp hk
  obtain ⟨y', k8, hk⟩ := Option.bind_eq_some_iff.mp hk
  have kz := need_ok hk
  clear hk
  simp only [Bool.and_eq_true, beq_iff_eq, Bool.not_eq_true', decide_eq_false_iff_not] at kz
  obtain ⟨⟨⟨⟨⟨⟨⟨⟨g1, g2⟩, g3⟩, g4⟩, g5⟩, g6⟩, g7⟩, g8⟩, g9⟩ := kz
  subst g1
  subst g2
  subst g3
  subst g4
  obtain ⟨o1, o2⟩ := ok1_and g7
  obtain ⟨o3, o4⟩ := ok1_and g8
  obtain ⟨v1, v2, v3, v4⟩ := ev_vp h1 h5
  have p1 := fun S : Sto => plan_chance_ok hcs v1 (by rw [v3]; intro n hn; rw [List.eq_of_mem_replicate hn]; omega) h1 (by omega) (S := S)
  have p2 := fun S : Sto => plan_chance_ok hcs v2 (by rw [v4]; intro n hn; rw [List.eq_of_mem_replicate hn]; omega) h1 (by omega) (S := S)
  rw [v3, g5] at p1
  rw [v4, g6] at p2
  have ev1 := fun S : Sto => (even_ok (S := S) h1 h5).1
  have ev2 := fun S : Sto => (even_ok (S := S) h1 h5).2
  have er : (rounds : Int) + 1 = ((rounds + 1 : Nat) : Int) := by omega
  have tw0 := fun S : Sto => told_within_ok (S := S) hc k4 h1 (by omega) (by omega)
  have tw1 := fun S : Sto => told_within_ok (S := S) hc k6 h1 (by omega) (by omega)
  have tw2 := fun S : Sto => told_within_ok (S := S) hc k8 h1 (by omega) (by omega)
  have kw2 := fun S : Sto => within_ok (S := S) k7 (by omega) (by omega)
  have tm := fun S : Sto => told_within_ok (S := S) hc k3 h1 (by omega) (by omega)
  rw [← er] at tm
  rw [show ((0 : Nat) : Int) = 0 from rfl] at tw0
  rw [show ((1 : Nat) : Int) = 1 from rfl] at tw1
  rw [show ((2 : Nat) : Int) = 2 from rfl] at tw2 kw2
  have f01 : ∀ S : Sto, neS S (fr (0, 1)) (.tup [.int 0, .int 1]) = some (.bl false) := fun S => by rw [fr_mk, ne_fr]; simp
  simp -implicitDefEqProofs [em, within_ok k1 (by omega) (by omega), told_within_ok hc k2 h1 (by omega) (by omega), same2, tm, mul_ok o3 o2, mul_ok o1 o4, g9, tw0, f01]
  refine ok_bind (ok_plan n3 h1 h5) ?_
  rintro _ _ ⟨pl, c4, rfl, hl, hg, hP, rfl, n4⟩
  have hv := plan_vp hl hg hP
  have hle0 : ∀ n ∈ cnts many pl, n ≤ 8 := cnts_le (by omega)
  have pc := fun S : Sto => plan_chance_ok hcs hv hle0 h1 (by omega) (S := S)
  obtain ⟨z6, z8, ez⟩ := partsZ hcs h1 h5 hl hg hP (s0 := .fz (.obj 0)) (s1 := s1) (s4 := .fz (.int rounds)) (s9 := s9) (s10 := s10) (s11 := s11) (S := c4 :: T) many 0 (.fz (fr more)) s8 (by omega)
  rw [show ((0 : Nat) : Int) = 0 from rfl] at ez
  have nm : ∀ (ρ : DL.Env) (S : Sto), ρ.length = 12 → eLc (.nm 9) (iStr (kc (.str [97, 98, 99, 100, 101, 102, 103, 104, 105, 106]))) tYes (e2 addS (kc (.str [98])) (pk 9)) [9] ρ S = .ok (.lst (bn.map .str)) S := fun ρ S hρ => by
    have hb : bn.map D.str = [97, 98, 99, 100, 101, 102, 103, 104, 105, 106].map fun k => .str [98, k] := rfl
    rw [hb]
    refine lc_mapG (fun k => .str [k]) _ (by simp -implicitDefEqProofs []) (by simp [zLine]) fun k _ => ⟨_, rfl, ?_⟩
    have hg9 : ((wipe ρ [9]).set 9 (.fz (.str [k])))[9]? = some (.fz (.str [k])) := by
      rw [wipe_cons, wipe_nil]
      simp [hρ]
    have ha : addS S (.str [98]) (.str [k]) = some (.str [98, k]) := addS_str (by simp [zLine])
    show (e2 addS (kc (.str [98])) (pk 9)) ((wipe ρ [9]).set 9 (.fz (.str [k]))) S = _
    rw [e2_at, kc_at, Res.bind_ok, e2_k1_at, pk_at, hg9, slotP_fz, Res.bind_ok, e2_k2_at, ha]
    rfl
  have ct1 : ∀ S : Sto, cutS none (some (many : Int)) S (.tup (bn.map .str)) = some (.tup ((bn.take many).map .str)) := fun S => by
    rw [cutS_tup, cut_take, List.map_take]
  have ct2 : ∀ S : Sto, cutS none (some (2 * (many : Int))) S (.tup (bn.map .str)) = some (.tup ((bn.take (2 * many)).map .str)) := fun S => by
    rw [show (2 * (many : Int)) = ((2 * many : Nat) : Int) by omega, cutS_tup, cut_take, List.map_take]
  have m2 : ∀ S : Sto, mulS S (.int 2) (.int (many : Int)) = some (.int (2 * (many : Int))) := fun S => mulS_int (by simp [mulOk])
  generalize bn.map D.str = BN at nm ct1 ct2
  generalize (bn.take many).map D.str = B1 at ct1 ev1
  generalize (bn.take (2 * many)).map D.str = B2 at ct2 ev2
  generalize plD (evP many many) = E1 at ev1 p1
  generalize plD (evP many (2 * many)) = E2 at ev2 p2
  have chL := fun S : Sto => chanceL_ok hcs (many := many) (pl := pl) (by omega) (by omega) (S := S)
  generalize foldT c (cnts many pl) = FT at ez pc chL
  generalize plD pl = PD at ez pc chL
  generalize bodyZ = bz at ez ⊢
  simp -implicitDefEqProofs [chL, pc, same2, rangeS_1 (i := (many : Int)) (by omega) (by omega), ez, nm, ct1, ct2, m2, ev1, ev2, p1, p2, tw1, tw2, power_ok k5 (by omega), kw2, mul2]
  exact ok_ok (q _ _ ⟨c4, _, _, _, _, _, _, _, _, _, _, rfl, rfl, n4⟩)
theorem ada_ok : VP 2 [([97, 100, 97], 0)] ∧ foldT (1, 2) (cnts 2 [([97, 100, 97], 0)]) = (0, 1) ∧ withinP 2 (1, 2) 2 = some (9, 16) ∧ (∀ n ∈ cnts 2 [([97, 100, 97], 0)], n ≤ 8) :=
  ⟨⟨by decide +kernel, by unfold nameOk; decide +kernel, by decide +kernel⟩, by decide +kernel, by decide +kernel, by decide +kernel⟩
theorem one_ok {c0 : Cell} (n : Wst c0) : Ok (M__law_one_right [.fz (.obj 0)] [c0]) fun d S' => ∃ c', d = .bl true ∧ S' = [c'] ∧ Wst c' := by
  obtain ⟨t1, t2, t3, t4⟩ := ada_ok
  have hcs : ((1, 2) : Fr) ∈ cs := by decide
  have f12 : D.tup [.int 1, .int 2] = fr (1, 2) := fr_mk 1 2
  have fpl : D.tup [.tup [.str [97, 100, 97], .int 0]] = plD [([97, 100, 97], 0)] := rfl
  have x1 : ∀ S : Sto, M_told_within [.fz (.int 2), .fz (.tup [.int 1, .int 2]), .fz (.int 2)] S = .ok (fr (9, 16)) S := fun S => by rw [f12]; exact told_within_ok (many := 2) (rounds := 2) (cs_isC hcs) t3 (by omega) (by omega) (by omega)
  have x2 : ∀ S : Sto, M_plan_chance [.fz (.int 2), .fz (.tup [.tup [.str [97, 100, 97], .int 0]]), .fz (.tup [.int 1, .int 2])] S = .ok (fr (0, 1)) S := fun S => by
    rw [f12, fpl, ← t2]
    exact plan_chance_ok (many := 2) hcs t1 t4 (by omega) (by omega)
  have x3 : ∀ S : Sto, M__law_same 8 [.fz (.tup [fr (9, 16), fr (0, 1)]), .fz (.tup [.tup [.int 9, .int 16], .tup [.int 0, .int 1]])] S = .ok (.bl true) S := fun S => by
    rw [fr_mk 9 16, fr_mk 0 1]
    exact same2
  have hB : B__law_one_right = sSeq (sFor (.nm 1) (iRange (eCons (kc (.int 4)) eNil)) bodyO) tailO := rfl
  refine ok_gen fun _ q => ?_
  rw [show M__law_one_right = fnM 11 B__law_one_right from rfl, hB]
  have bA := @bodyO_ok
  generalize bodyO = ba at bA ⊢
  ((first | refine ok_ent ?_ | refine eq_ent ?_); simp -implicitDefEqProofs [rangeS_1])
  refine ok_bind (ok_for (fun rest ρ S' => ∃ (c' : Cell) (s1 z2 z3 z4 z5 z6 z7 z8 z9 z10 z11 : Slot), ρ = [.fz (.obj 0), s1, z2, z3, z4, z5, z6, z7, z8, z9, z10, z11] ∧ S' = [c'] ∧ Wst c') ?_ ⟨_, _, _, _, _, _, _, _, _, _, _, _, rfl, rfl, n⟩) ?_
  · rintro d ds _ _ ⟨c', s1, z2, z3, z4, z5, z6, z7, z8, z9, z10, z11, rfl, rfl, n'⟩
    refine ⟨_, rfl, fun _ q => ?_⟩
    refine ok_of (bA n') ?_
    rintro _ _ ⟨c2, y2, y3, y4, y5, y6, y7, y8, y9, y10, y11, rfl, rfl, n2⟩
    exact (q _ _ ⟨c2, _, _, _, _, _, _, _, _, _, _, _, rfl, rfl, n2⟩).1
  · rintro _ _ ⟨_, rfl, c', s1, z2, z3, z4, z5, z6, z7, z8, z9, z10, z11, rfl, rfl, n'⟩
    unfold tailO
    simp -implicitDefEqProofs [x1, x2, x3]
    exact ok_ok (q _ _ ⟨c', rfl, rfl, n'⟩)
theorem right_ok {c0 : Cell} (n : Wst c0) : Ok (M__law_right [.fz (.obj 0)] [c0]) fun d S' => d = .bl true := by
  refine ok_gen fun _ q => ?_
  ((first | refine ok_ent ?_ | refine eq_ent ?_); simp -implicitDefEqProofs [B__law_right])
  refine ok_bind (one_ok n) ?_
  rintro _ _ ⟨c', rfl, rfl, n'⟩
  simp -implicitDefEqProofs []
  refine ok_bind (two_ok n') ?_
  rintro _ _ ⟨c'', rfl, rfl, n''⟩
  simp -implicitDefEqProofs []
  exact ok_ok (q _ _ rfl)
theorem ok_well (ns : List Int) : Ok (M__law_well [.fz (.scr ns), .fz (.int 0)] []) fun d S' => ∃ c, d = .obj 0 ∧ S' = [c] ∧ Wst c := by
  have hI := cut_ints (ns := ns) (lo := none) (hi := some 16)
  have hc : cutS none (some 16) [] (.scr ns) = some (.lst (cut (ns.map D.int) none (some 16))) := rfl
  generalize cut (ns.map D.int) none (some 16) = ds at hI hc
  have x0 : ∀ x : Int, 0 ≤ x % 2147483587 ∧ x % 2147483587 < 2147483587 := fun x => ⟨Int.emod_nonneg _ (by omega), Int.emod_lt_of_pos _ (by omega)⟩
  refine ok_gen fun _ q => ?_
  have m0 : ∀ S : Sto, mulS S (.int 6311) (.int 0) = some (.int 0) := fun S => mulS_int (by simp [mulOk])
  ((first | refine ok_ent ?_ | refine eq_ent ?_); simp -implicitDefEqProofs [B__law_well, m0, hc])
  refine ok_bind (ok_for (fun rest ρ S1 => ∃ (s : Int) (s3 : Slot), 0 ≤ s ∧ s < 2147483587 ∧ (∀ d ∈ rest, isI d = true) ∧ S1 = [] ∧ ρ = [.fz (.scr ns), .fz (.int 0), .fz (.int s), s3, .un]) ?_ ⟨706001, .un, by omega, by omega, hI, rfl, rfl⟩) ?_
  · rintro d r _ _ ⟨s, sl, h1, h2, h4, rfl, rfl⟩
    have h5 := h4 d List.mem_cons_self
    cases d <;> simp [isI] at h5
    rename_i z
    have m1 : mulOk s 48271 = true := by simp [mulOk]
    refine ⟨_, rfl, fun _ q => ?_⟩
    simp -implicitDefEqProofs [mulS_int m1]
    exact ok_ok (q _ _ ⟨_, _, (x0 _).1, (x0 _).2, fun d hd => h4 d (List.mem_cons_of_mem _ hd), rfl, rfl⟩).1
  rintro _ _ ⟨_, rfl, s, s3, hs1, hs2, _, rfl, rfl⟩
  have hl : lenC [] [.scr ns] = some (.int ns.length) := rfl
  have hix : ∀ z r, ns = z :: r → ixS [] (.scr ns) (.int 0) = some (.int z) := fun z r e => by subst e; exact atL_0
  obtain ⟨own, hown⟩ : ∃ own : Int, ∀ (ρ : DL.Env), ρ[0]? = some (.fz (.scr ns)) → ρ[1]? = some (.fz (.int 0)) → eIf (tB (e2 ltS (pk 1) (eN lenC (eCons (pk 0) eNil)))) (eN intC (eCons (e2 ixS (pk 0) (pk 1)) eNil)) (kc (.int 0)) ρ [] = .ok (.int own) [] := by
    cases hns : ns with
    | nil =>
      refine ⟨0, fun ρ h0 h1 => ?_⟩
      rw [hns] at hl
      simp -implicitDefEqProofs [h0, h1, hl]
    | cons z r =>
      have hix := hix z r hns
      rw [hns] at hl hix
      refine ⟨z, fun ρ h0 h1 => ?_⟩
      have hp : (0 : Int) < (r.length : Int) + 1 := by omega
      simp -implicitDefEqProofs [h0, h1, hl, hix, hp]
  have m1 : ∀ S : Sto, mulS S (.int s) (.int 53) = some (.int (s * 53)) := fun S => mulS_int (by simp [mulOk])
  have m2 : ∀ S : Sto, mulS S (.int (own % 2147483549)) (.int 15013) = some (.int (own % 2147483549 * 15013)) := fun S => mulS_int (by simp [mulOk])
  have hw := hown [.fz (.scr ns), .fz (.int 0), .fz (.int s), s3, .un] rfl rfl
  rw [thenK_at, seqK_nx, sSeq_at, sSet_at, hw]
  obtain ⟨y, hy⟩ : ∃ y, y = (s * 53 + own % 2147483549 * 15013 + 11) % 2147483587 := ⟨_, rfl⟩
  have hy0 : 0 ≤ y ∧ y < 2147483587 := by rw [hy]; exact x0 _
  have hab : ∀ S : Sto, absC S [.int own] = some (.int (own.natAbs : Int)) := fun S => by
    show some (D.int _) = _
    congr 2
    omega
  simp -implicitDefEqProofs [m1, m2, ← hy]
  have fin : ∀ b : Int, 0 ≤ b → ∃ c, Cell.lst [.int b, .int y, .int 0] = c ∧ Wst c := fun b hb => ⟨_, rfl, b, y, 0, rfl, hb, hy0.1, hy0.2, by omega⟩
  by_cases hn : own < 0
  · simp -implicitDefEqProofs [hn, hab, powS_int]
    obtain ⟨c, e, hc'⟩ := fin _ (Int.emod_nonneg (own.natAbs : Int) (show (1000000000000000000000000000000000000000000000000000000000000 : Int) ≠ 0 by decide))
    exact ok_ok (q _ _ ⟨c, rfl, by rw [← e], hc'⟩)
  · by_cases hb : (1000000000000000 : Int) ≤ own
    · simp -implicitDefEqProofs [hn, hb, hab, powS_int]
      obtain ⟨c, e, hc'⟩ := fin _ (Int.emod_nonneg (own.natAbs : Int) (show (1000000000000000000000000000000000000000000000000000000000000 : Int) ≠ 0 by decide))
      exact ok_ok (q _ _ ⟨c, rfl, by rw [← e], hc'⟩)
    · simp -implicitDefEqProofs [hn, hb, powS_int]
      obtain ⟨c, e, hc'⟩ := fin 0 (by omega)
      exact ok_ok (q _ _ ⟨c, rfl, by rw [← e], hc'⟩)
end K63

set_option linter.all false
set_option maxRecDepth 100000
namespace K63
open DL
theorem pure : Pure := by
  intro ns _ _
  have h : Ok (M_law [.fz (.scr ns)] []) fun d _ => d = .bl true := by
    refine ok_gen fun _ q => ?_
    ((first | refine ok_ent ?_ | refine eq_ent ?_); simp -implicitDefEqProofs [B_law])
    refine ok_bind (ok_well ns) ?_
    rintro _ _ ⟨c, rfl, rfl, n⟩
    simp -implicitDefEqProofs []
    refine ok_bind (right_ok n) ?_
    rintro _ S rfl
    simp -implicitDefEqProofs []
    exact ok_ok (q _ _ rfl)
  obtain ⟨_, S', e, rfl⟩ := h.ex
  exact ⟨S', e⟩
end K63

set_option maxRecDepth 100000 in
set_option maxHeartbeats 0 in
theorem PySem.Challenge.cw_doveposts_k63_whole_chances_and_mean_num_holds : PySem.Challenge.rw_doveposts_k63_whole_chances_and_mean_num.Holds := by
  exact K63_of K63.pure
