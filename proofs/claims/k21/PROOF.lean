import PyProof.Rows.All
import HandS.Base
import HandS.Call
import HandS.List
import HandS.Wide
import HandS.Comp
import HandS.Exc
import HandS.ExcOwn
import HandS.TupAny
import HandS.IsInst
import HandS.Deep
import HandS.Flow
import HandS.Text
import HandS.Dict
import HandS.Iter
import HandS.Walk
import HandS.Zip
import HandS.TryMany
import HandS.TryOnly
import HandS.ExcField
import HandS.ExcIs
import HandS.ExcInit
import HandS.Defaults
import HandS.HeadHook2
import HandS.Small
import HandS.RaiseMore
import HandS.Words
import HandS.WordsExc
import HandS.Style
import HandS.HeadWalk
import HandS.Head0
import HandS.Head1
import HandS.Head2
import HandS.HeadEnd
import HandS.HeadHook1
import HandS.EndTab
import KE.KStateDown
import Lean
import PySem.Challenge.RW_gleanhold_k21_answers_are_told
set_option linter.all false
set_option Elab.async false
set_option maxRecDepth 100000
/-! GCore: own values, own syntax, own evaluator over a logical heap. Plain Lean. -/
namespace G
open PySem (Str PyData sizeLine)
open L2 (Key)

/-- a text by its codes -/
def st (l : List Nat) : Str := ⟨l.toArray⟩
theorem st_inj {a b : List Nat} : st a = st b ↔ a = b := by
  constructor
  · intro h
    have h1 : a.toArray = b.toArray := congrArg Str.cps h
    simpa using h1
  · intro h; rw [h]

/-- values: tuples and lists that never change by structure; ref: an object of the logical heap; rol: a list from outside (the script) -/
inductive Val where
  | non | bl (b : Bool) | int (i : Int) | str (s : Str)
  | tup (xs : List Val) | lst (xs : List Val) | rol (xs : List Val) | ref (a : Nat)
  deriving Inhabited

inductive Ob where
  | lst (xs : List Val)
  | ins (c : Nat) (fs : List (Nat × Val))
  | dk (kvs : List (Key × Val))
  | dt (kvs : List (List Key × Val))
  deriving Inhabited

abbrev LH := List Ob
abbrev Env := List (Option Val)

/-- what an evaluation gives -/
inductive Res (α : Type) where
  | ok (a : α) (h : LH)
  | ex (c : Nat) (fs : List (Nat × Val)) (h : LH)
  | bad

def Res.bind {α β : Type} (r : Res α) (f : α → LH → Res β) : Res β :=
  match r with
  | .ok a h => f a h
  | .ex c fs h => .ex c fs h
  | .bad => .bad
@[simp] theorem bind_ok {α β : Type} (a : α) (h : LH) (f : α → LH → Res β) : (Res.ok a h).bind f = f a h := rfl
@[simp] theorem bind_ex {α β : Type} (c : Nat) (fs : List (Nat × Val)) (h : LH) (f : α → LH → Res β) : (Res.ex c fs h : Res α).bind f = .ex c fs h := rfl
@[simp] theorem bind_bad {α β : Type} (f : α → LH → Res β) : (Res.bad : Res α).bind f = .bad := rfl

/-! ### the syntax -/
inductive Op2 where | add | sub | mul | fdiv | mod | pow
  deriving DecidableEq
inductive Cm where | eq | ne | lt | le | gt | ge | is | isnt | inn | nin
  deriving DecidableEq
/-- what isinstance asks -/
inductive Ty where | int | bool | str | tup | lst | cls (c : Nat)
  deriving DecidableEq
/-- built-ins by name -/
inductive Bi where | len | abs | int | str | bool | max2 | min2 | all | any | sum | max | min | tuple
  deriving DecidableEq
/-- methods of built-in types -/
inductive Bm where | append | pop | popAt | extend | join | split
  deriving DecidableEq

mutual
inductive E where
  | v (i : Nat)
  | c (x : Val)
  | g (i : Nat)
  | bin (o : Op2) (a b : E)
  | neg (a : E)
  | cmp (o : Cm) (a b : E)
  | cmp2 (o p : Cm) (a b c : E)
  | and (a b : E) | or (a b : E) | not (a : E)
  | ite (c a b : E)
  | tup (es : Es)
  | fr (f : F)
  | bx (f : F)
  | ix (a b : E)
  | sl (a : E) (lo hi : Oe)
  | fld (a : E) (f : Nat)
  | isi (a : E) (t : Ty)
  /-- the error that the suite holds: its field, isinstance of it -/
  | xfld (f : Nat)
  | xisi (t : Ty)
  | call (f : Nat) (es : Es)
  | callk (f : Nat) (es ks : Es)
  | mk (c : Nat) (es : Es)
  | mth (o : E) (m : Nat) (es : Es)
  | bi (b : Bi) (es : Es)
  | bm (o : E) (m : Bm) (es : Es)
  /-- a[::-1] -/
  | rev (a : E)
/-- lists that are new -/
inductive F where
  | disp (es : Es)
  | lc (tg : Tg) (it : Wk) (t e : E)
  | lc0 (tg : Tg) (it : Wk) (e : E)
  | cat (a b : E)
  | rep (a b : E)
  | lslice (a : E) (lo hi : Oe)
  | list (a : E)
/-- a target: a slot, or a tuple of slots (none: a slot too) -/
inductive Tg where
  | v (i : Nat)
  | tup (is : List Nat)
/-- what is walked -/
inductive Wk where
  | val (e : E)
  | rng (a : E)
  | rng2 (a b : E)
  | enum (e : E)
  | zip (a b : E)
inductive Oe where
  | none
  | some (e : E)
inductive Es where
  | nil
  | cons (e : E) (r : Es)
end

mutual
inductive S where
  | set (t : Tg) (e : E)
  | fld (o : E) (f : Nat) (e : E)
  | fldA (o : E) (f : Nat) (op : Op2) (e : E)
  | aug (i : Nat) (op : Op2) (e : E)
  | sub (o i e : E)
  | ex (e : E)
  | ret (e : E)
  | retN
  | ite (c : E) (a b : Ss)
  | for (t : Tg) (it : Wk) (b : Ss)
  | while (c : E) (b : Ss)
  | brk | cont | pass
  | raise (c : Nat) (es : Es)
  | tryC (b : Ss) (hs : Hs)
inductive Ss where
  | nil
  | cons (s : S) (r : Ss)
/-- except clauses: the class, the slot of the name, the suite -/
inductive Hs where
  | nil
  | cons (c : Nat) (i : Option Nat) (s : Ss) (r : Hs)
end

/-- a def: how many parameters, slots; its body -/
structure Def where
  np : Nat
  ns : Nat
  body : Ss

/-- the program's tables -/
structure Prog where
  fn : Nat → Option Def
  /-- the def of a class's method by its name -/
  meth : Nat → Nat → Option Nat
  /-- the def that makes an instance (its __init__) -/
  init : Nat → Option Nat
  con : Nat → Option Val
  /-- may an instance of the class have this attribute -/
  attr : Nat → Nat → Bool
  /-- an error's class: by its __init__'s fields, in order (the arguments themselves) -/
  exc : Nat → Option (List Nat)
  /-- is the class c below (or) d -/
  sub : Nat → Nat → Bool


/-! ### values -/
mutual
def toPyV : Val → Option PyData
  | .non => some .none
  | .bl b => some (.bool b)
  | .int i => some (.int i)
  | .str x => some (.str x)
  | .tup xs => (toPyL xs).map .tuple
  | .lst xs => (toPyL xs).map .list
  | .rol xs => (toPyL xs).map .list
  | .ref _ => none
def toPyL : List Val → Option (List PyData)
  | [] => some []
  | x :: xs => (toPyV x).bind fun d => (toPyL xs).map fun ds => d :: ds
end
/-- data, one list of the heap deep -/
def pyOf (h : LH) : Val → Option PyData
  | .ref a => match h[a]? with
    | some (.lst xs) => (toPyL xs).map .list
    | _ => none
  | v => toPyV v
/-- two plain things -/
def scEq : Val → Val → Option Bool
  | .non, .non => some true
  | .non, .int _ => some false
  | .int _, .non => some false
  | .non, .bl _ => some false
  | .bl _, .non => some false
  | .non, .str _ => some false
  | .str _, .non => some false
  | .int i, .int j => some (decide (i = j))
  | .bl i, .bl j => some (decide (i = j))
  | .str i, .str j => some (decide (i = j))
  | .int _, .str _ => some false
  | .str _, .int _ => some false
  | .bl _, .str _ => some false
  | .str _, .bl _ => some false
  | _, _ => none
/-- a == b -/
def eqVal (h : LH) (x y : Val) : Option Bool :=
  match scEq x y with
  | some b => some b
  | none => match pyOf h x, pyOf h y with
    | some d, some e => if PySem.SeqAt.shaped d && PySem.SeqAt.shaped e then some (PyData.eqv d e) else none
    | _, _ => none
def flat : Val → Bool
  | .non | .bl _ | .int _ | .str _ => true
  | _ => false
def flatEq : Val → Val → Bool
  | .non, .non => true
  | .bl a, .bl b => a == b
  | .bl a, .int b => (if a then 1 else 0) == b
  | .int a, .bl b => a == (if b then 1 else 0)
  | .int a, .int b => a == b
  | .str a, .str b => a == b
  | _, _ => false
/-- the items of a list or tuple -/
def seqOf (h : LH) : Val → Option (List Val)
  | .tup xs | .lst xs | .rol xs => some xs
  | .ref a => match h[a]? with
    | some (.lst xs) => some xs
    | _ => none
  | _ => none
def isTup : Val → Bool
  | .tup _ => true
  | _ => false
/-- what a dict has at a key -/
def dget {κ α : Type} [DecidableEq κ] (kvs : List (κ × α)) (k : κ) : Option α := (kvs.find? fun kv => decide (kv.1 = k)).map (·.2)
def keyOf : Val → Option Key
  | .int i => some (.inl i)
  | .str x => some (.inr x)
  | _ => none
def keysOf : Val → Option (List Key)
  | .tup xs => xs.mapM keyOf
  | _ => none
/-- x in y -/
def inVal (h : LH) (x y : Val) : Option Bool :=
  match y with
  | .str z => match x with
    | .str s => match s.cps.toList with
      | [c] => some (decide (c ∈ z.cps.toList))
      | _ => none
    | _ => none
  | .ref a => match h[a]? with
    | some (.dk kvs) => (keyOf x).map fun k => (dget kvs k).isSome
    | some (.lst ys) => if flat x && ys.all flat then some (ys.any fun y => flatEq y x) else
        match toPyV x, toPyL ys with
        | some d, some ds => if PySem.SeqAt.shaped d && PySem.SeqAt.shaped (.list ds) then some (ds.any fun z => PyData.eqv z d) else none
        | _, _ => none
    | _ => none
  | y => match seqOf h y with
    | some ys => if flat x && ys.all flat then some (ys.any fun y => flatEq y x) else
        match isTup y, toPyV x, toPyL ys with
        | false, some d, some ds => if PySem.SeqAt.shaped d && PySem.SeqAt.shaped (.list ds) then some (ds.any fun z => PyData.eqv z d) else none
        | _, _, _ => none
    | none => none
def truth (h : LH) : Val → Option Bool
  | .non => some false
  | .bl b => some b
  | .int i => some (i != 0)
  | .str s => if s.length ≤ sizeLine then some ((s.length : Int) != 0) else none
  | .tup xs | .lst xs | .rol xs => some (!xs.isEmpty)
  | .ref a => match h[a]? with
    | some (.lst xs) => some (!xs.isEmpty)
    | some (.dk kvs) => some (!kvs.isEmpty)
    | _ => none
/-- a value as a result -/
def ofOpt {α : Type} (o : Option α) (h : LH) : Res α :=
  match o with
  | some a => .ok a h
  | none => .bad
@[simp] theorem ofOpt_some {α : Type} (a : α) (h : LH) : ofOpt (some a) h = .ok a h := rfl
@[simp] theorem ofOpt_none {α : Type} (h : LH) : ofOpt (none : Option α) h = .bad := rfl
/-- a list that can be added to others -/
def lstOf (h : LH) : Val → Option (List Val)
  | .lst xs => some xs
  | .ref a => match h[a]? with
    | some (.lst xs) => some xs
    | _ => none
  | _ => none
def catL (h : LH) (x y : Val) : Option (List Val) :=
  match lstOf h x, lstOf h y with
  | some xs, some ys => if xs.length + ys.length ≤ sizeLine then some (xs ++ ys) else none
  | _, _ => none
def repL (h : LH) (x : Val) (k : Int) : Option (List Val) :=
  match lstOf h x with
  | some xs => if -(2 ^ 63) ≤ k ∧ k < 2 ^ 63 ∧ xs.length * k.toNat ≤ sizeLine then some (List.replicate k.toNat xs).flatten else none
  | none => none
def opV (h : LH) (o : Op2) (x y : Val) : Option Val :=
  match o with
  | .add => match x, y with
    | .int i, .int j => some (.int (i + j))
    | .str i, .str j => if i.length + j.length ≤ sizeLine then some (.str (i ++ j)) else none
    | .tup xs, .tup ys => if xs.length + ys.length ≤ sizeLine then some (.tup (xs ++ ys)) else none
    | x, y => (catL h x y).map .lst
  | .sub => match x, y with
    | .int i, .int j => some (.int (i - j))
    | _, _ => none
  | .mul => match x, y with
    | .int i, .int j => if (-(2 ^ 64) < i ∧ i < 2 ^ 64) ∨ (-(2 ^ 64) < j ∧ j < 2 ^ 64) then some (.int (i * j)) else none
    | x, .int k => (repL h x k).map .lst
    | _, _ => none
  | .fdiv => match x, y with
    | .int i, .int j => if 0 < j ∧ j < 1073741824 then some (.int (i / j)) else none
    | _, _ => none
  | .mod => match x, y with
    | .int i, .int j => if 0 < j then some (.int (i % j)) else none
    | _, _ => none
  | .pow => match x, y with
    | .int i, .int j => if 0 ≤ j ∧ j ≤ 1000000 ∧ i.natAbs < 2 ^ 64 then some (.int (i ^ j.toNat)) else none
    | _, _ => none
/-- x[::-1] -/
def revV (h : LH) (x : Val) : Option Val :=
  match x with
  | .tup xs => some (.tup xs.reverse)
  | x => (seqOf h x).map fun xs => .lst xs.reverse
def isNon : Val → Bool
  | .non => true
  | _ => false
def cmpV (h : LH) (o : Cm) (x y : Val) : Option Bool :=
  match o with
  | .eq => eqVal h x y
  | .ne => (eqVal h x y).map (!·)
  | .inn => inVal h x y
  | .nin => (inVal h x y).map (!·)
  | .is => match y with
    | .non => some (isNon x)
    | _ => none
  | .isnt => match y with
    | .non => some (!isNon x)
    | _ => none
  | .lt => match x, y with | .int i, .int j => some (decide (i < j)) | _, _ => none
  | .le => match x, y with | .int i, .int j => some (decide (i ≤ j)) | _, _ => none
  | .gt => match x, y with | .int i, .int j => some (decide (j < i)) | _, _ => none
  | .ge => match x, y with | .int i, .int j => some (decide (j ≤ i)) | _, _ => none
/-- x[i] -/
def ixVal (h : LH) (x i : Val) : Option Val :=
  match x with
  | .str z => match i with
    | .int i => if z.length ≤ sizeLine then (L2.atI z.cps.toList i).map fun c => .str (st [c]) else none
    | _ => none
  | .ref a => match h[a]? with
    | some (.lst xs) => match i with | .int i => L2.atI xs i | _ => none
    | some (.dk kvs) => (keyOf i).bind fun k => dget kvs k
    | _ => none
  | .tup xs | .lst xs | .rol xs => match i with | .int i => L2.atI xs i | _ => none
  | _ => none
def cutL {α : Type} (xs : List α) (lo hi : Option Int) : List α := (xs.drop (HT.sIx xs.length 0 lo)).take (HT.sIx xs.length xs.length hi - HT.sIx xs.length 0 lo)
/-- x[lo:hi] -/
def slV (h : LH) (x : Val) (l u : Option Int) : Option Val :=
  match x with
  | .tup xs => some (.tup (cutL xs l u))
  | .str s => if s.length ≤ sizeLine then some (.str ⟨(cutL s.cps.toList l u).toArray⟩) else none
  | x => (seqOf h x).map fun xs => .lst (cutL xs l u)
def fldVal (P : Prog) (h : LH) (x : Val) (f : Nat) : Option Val :=
  match x with
  | .ref a => match h[a]? with
    | some (.ins c fs) => if P.attr c f = true then fs.lookup f else none
    | _ => none
  | _ => none
def putN (f : Nat) (v : Val) : List (Nat × Val) → List (Nat × Val)
  | [] => [(f, v)]
  | (g, x) :: r => if g = f then (g, v) :: r else (g, x) :: putN f v r
/-- is a thing of the built-in class n one of t -/
def tyB : Ty → Ty → Bool
  | .bool, .bool => true
  | .bool, .int => true
  | .int, .int => true
  | .str, .str => true
  | .tup, .tup => true
  | .lst, .lst => true
  | _, _ => false
def isOwn : Ty → Bool
  | .cls _ => true
  | _ => false
/-- isinstance against a built-in class -/
def isiV (h : LH) (t : Ty) (x : Val) : Option Bool :=
  if isOwn t = true then none else
  match x with
    | .non => some false
    | .bl _ => some (tyB .bool t)
    | .int _ => some (tyB .int t)
    | .str _ => some (tyB .str t)
    | .tup _ => some (tyB .tup t)
    | .lst _ => some (tyB .lst t)
    | .rol _ => some (tyB .lst t)
    | .ref a => match h[a]? with
      | some (.lst _) => some (tyB .lst t)
      | _ => none
def allBl : List Val → Option (List Bool)
  | [] => some []
  | .bl b :: r => (allBl r).map (b :: ·)
  | _ :: _ => none
def allInt : List Val → Option (List Int)
  | [] => some []
  | .int b :: r => (allInt r).map (b :: ·)
  | _ :: _ => none
/-- the greatest, the least of some ints -/
def maxI : List Int → Int
  | [] => 0
  | [x] => x
  | x :: r => let m := maxI r; if m > x then m else x
def minI : List Int → Int
  | [] => 0
  | [x] => x
  | x :: r => let m := minI r; if m < x then m else x
/-- a list's items -/
def listOf (h : LH) : Val → Option (List Val)
  | .tup _ => none
  | x => seqOf h x
def lenV (h : LH) : Val → Option Int
  | .str s => if s.length ≤ sizeLine then some s.length else none
  | x => (seqOf h x).map fun xs => (xs.length : Int)
def biV (h : LH) (b : Bi) (vs : List Val) : Option Val :=
  match b with
  | .len => match vs with | [x] => (lenV h x).map .int | _ => none
  | .abs => match vs with | [.int i] => some (.int (if i < 0 then -i else i)) | _ => none
  | .int => match vs with | [.int i] => some (.int i) | [.bl b] => some (.int (if b then 1 else 0)) | _ => none
  | .str => match vs with | [.int i] => if i.natAbs.log2 < 1920 then some (.str (toString i)) else none | _ => none
  | .bool => match vs with | [.int i] => some (.bl (i != 0)) | [.bl b] => some (.bl b) | _ => none
  | .max2 => match vs with | [.int i, .int j] => some (.int (if j > i then j else i)) | _ => none
  | .min2 => match vs with | [.int i, .int j] => some (.int (if j < i then j else i)) | _ => none
  | .all => match vs with | [x] => (listOf h x).bind fun xs => (allBl xs).map fun (bs : List Bool) => .bl (bs.all id) | _ => none
  | .any => match vs with | [x] => (listOf h x).bind fun xs => (allBl xs).map fun (bs : List Bool) => .bl (bs.any id) | _ => none
  | .sum => match vs with | [x] => (listOf h x).bind fun xs => (allInt xs).map fun (ns : List Int) => .int ns.sum | _ => none
  | .max => match vs with | [x] => (listOf h x).bind fun xs => (allInt xs).bind fun (ns : List Int) => if ns = [] then none else some (.int (maxI ns)) | _ => none
  | .min => match vs with | [x] => (listOf h x).bind fun xs => (allInt xs).bind fun (ns : List Int) => if ns = [] then none else some (.int (minI ns)) | _ => none
  | .tuple => match vs with | [x] => (seqOf h x).map .tup | _ => none
/-- a method of a built-in type that changes nothing, or a list of the heap -/
def bmV (h : LH) (m : Bm) (o : Val) (vs : List Val) : Res Val :=
  match m, o, vs with
  | .append, .ref a, [x] => match h[a]? with
    | some (.lst xs) => if xs.length < sizeLine then .ok .non (h.set a (.lst (xs ++ [x]))) else .bad
    | _ => .bad
  | .pop, .ref a, [] => match h[a]? with
    | some (.lst xs) => match xs[xs.length - 1]? with
      | some y => .ok y (h.set a (.lst xs.dropLast))
      | none => .bad
    | _ => .bad
  | .popAt, .ref a, [.int i] => match h[a]? with
    | some (.lst xs) => if -(2 ^ 63) ≤ i ∧ i < 2 ^ 63 then match L2.ixN xs.length i with
      | some k => match xs[k]? with
        | some y => .ok y (h.set a (.lst (xs.eraseIdx k)))
        | none => .bad
      | none => .bad
      else .bad
    | _ => .bad
  | _, _, _ => .bad
/-- is it of the method's type -/
def bmTy (h : LH) (m : Bm) (x : Val) : Bool :=
  match m, x with
  | .join, .str _ => true
  | .split, .str _ => true
  | .append, .ref a => match h[a]? with | some (.lst _) => true | _ => false
  | .pop, .ref a => match h[a]? with | some (.lst _) => true | _ => false
  | .popAt, .ref a => match h[a]? with | some (.lst _) => true | _ => false
  | .extend, .ref a => match h[a]? with | some (.lst _) => true | _ => false
  | _, _ => false
def assignT (t : Tg) (x : Val) (h : LH) (σ : Env) : Option Env :=
  match t with
  | .v i => some (σ.set i (some x))
  | .tup is => match seqOf h x with
    | some xs => if xs.length = is.length then some ((is.zip xs).foldl (fun σ p => σ.set p.1 (some p.2)) σ) else none
    | none => none
def Tg.slots : Tg → List Nat
  | .v i => [i]
  | .tup is => is
/-- a comprehension's own slots are empty at first -/
def wipeL (σ : Env) : List Nat → Env
  | [] => σ
  | v :: vs => (wipeL σ vs).set v none
def wipeT (t : Tg) (σ : Env) : Env := wipeL σ t.slots
/-! ### what is walked -/
inductive Src1 where
  | fix (xs : List Val)
  | box (a : Nat)
inductive Src where
  | one (s : Src1)
  | enum (s : Src1)
  | zip (s t : Src1)
def Src1.list (h : LH) : Src1 → Option (List Val)
  | .fix xs => some xs
  | .box a => match h[a]? with
    | some (.lst xs) => some xs
    | _ => none
def Src.len (h : LH) : Src → Option Nat
  | .one s => (s.list h).map (·.length)
  | .enum s => (s.list h).map (·.length)
  | .zip s t => (s.list h).bind fun xs => (t.list h).map fun ys => min xs.length ys.length
/-- none: it can't be read; some none: the end -/
def Src.next (h : LH) (i : Nat) : Src → Option (Option Val)
  | .one s => (s.list h).map fun xs => xs[i]?
  | .enum s => (s.list h).map fun xs => xs[i]?.map fun x => .tup [.int i, x]
  | .zip s t => (s.list h).bind fun xs => (t.list h).map fun ys => (xs[i]?).bind fun x => (ys[i]?).map fun y => .tup [x, y]
def srcOf : Val → LH → Option Src1
  | .tup xs, _ | .lst xs, _ | .rol xs, _ => some (.fix xs)
  | .str s, _ => some (.fix (s.cps.toList.map fun c => .str (st [c])))
  | .ref a, h => match h[a]? with
    | some (.lst _) => some (.box a)
    | _ => none
  | _, _ => none
def rngL (lo : Int) (n : Nat) : List Val := (List.range n).map fun i => Val.int (lo + (i : Nat))
def rngOk (i : Int) : Prop := -(2 ^ 62) ≤ i ∧ i < 2 ^ 62
instance (i : Int) : Decidable (rngOk i) := by unfold rngOk; infer_instance

/-! ### the evaluator -/
/-- what runs around: the tables, the turns of a while, the calls, the error that a suite holds -/
structure Pm where
  P : Prog
  wf : Nat
  call : Nat → List Val → LH → Res Val
  xn : Option (Nat × List (Nat × Val))

def compN (body : Val → LH → Res (Option Val)) (s : Src) : Nat → Nat → List Val → LH → Res (List Val)
  | k, i, acc, h => match s.next h i with
    | none => .bad
    | some none => .ok acc h
    | some (some x) => match k with
      | 0 => .bad
      | k + 1 => match body x h with
        | .ok none h' => compN body s k (i + 1) acc h'
        | .ok (some y) h' => if acc.length < sizeLine then compN body s k (i + 1) (acc ++ [y]) h' else .bad
        | _ => .bad
/-- make an instance: the logical address, then its def -/
def mkV (M : Pm) (c : Nat) (vs : List Val) (h : LH) : Res Val :=
  match M.P.init c with
  | some f => match M.call f (.ref h.length :: vs) (h ++ [.ins c []]) with
    | .ok .non h' => .ok (.ref h.length) h'
    | .ok _ _ => .bad
    | .ex c fs h' => .ex c fs h'
    | .bad => .bad
  | none => .bad
/-- the def of the object's method -/
def findM (P : Prog) (o : Val) (m : Nat) (h : LH) : Option Nat :=
  match o with
  | .ref a => match h[a]? with
    | some (.ins c fs) => match fs.lookup m with
      | none => P.meth c m
      | some _ => none
    | _ => none
  | _ => none

mutual
def ev (M : Pm) (σ : Env) : E → LH → Res Val
  | .v i, h => match σ[i]? with
    | some (some x) => .ok x h
    | _ => .bad
  | .c x, h => .ok x h
  | .g i, h => ofOpt (M.P.con i) h
  | .bin o a b, h => (ev M σ a h).bind fun x h1 => (ev M σ b h1).bind fun y h2 => ofOpt (opV h2 o x y) h2
  | .neg a, h => (ev M σ a h).bind fun x h1 => match x with
    | .int i => .ok (.int (-i)) h1
    | _ => .bad
  | .cmp o a b, h => (ev M σ a h).bind fun x h1 => (ev M σ b h1).bind fun y h2 => ofOpt ((cmpV h2 o x y).map .bl) h2
  | .cmp2 o p a b c, h => (ev M σ a h).bind fun x h1 => (ev M σ b h1).bind fun y h2 => (ofOpt (cmpV h2 o x y) h2).bind fun t h3 =>
      if t = true then (ev M σ c h3).bind fun z h4 => ofOpt ((cmpV h4 p y z).map .bl) h4 else .ok (.bl false) h3
  | .and a b, h => (ev M σ a h).bind fun x h1 => match x with
    | .bl t => if t = true then ev M σ b h1 else .ok (.bl false) h1
    | _ => .bad
  | .or a b, h => (ev M σ a h).bind fun x h1 => match x with
    | .bl t => if t = true then .ok (.bl true) h1 else ev M σ b h1
    | _ => .bad
  | .not a, h => (ev M σ a h).bind fun x h1 => match x with
    | .bl t => .ok (.bl (!t)) h1
    | _ => .bad
  | .ite c a b, h => (ev M σ c h).bind fun x h1 => (ofOpt (truth h1 x) h1).bind fun t h2 => if t = true then ev M σ a h2 else ev M σ b h2
  | .tup es, h => (evs M σ es h).bind fun xs h1 => if xs.length ≤ sizeLine then .ok (.tup xs) h1 else .bad
  | .fr f, h => (evF M σ f h).bind fun xs h1 => .ok (.lst xs) h1
  | .bx f, h => (evF M σ f h).bind fun xs h1 => .ok (.ref h1.length) (h1 ++ [.lst xs])
  | .ix a b, h => (ev M σ a h).bind fun x h1 => (ev M σ b h1).bind fun y h2 => ofOpt (ixVal h2 x y) h2
  | .sl a lo hi, h => (ev M σ a h).bind fun x h1 => (evO M σ lo h1).bind fun l h2 => (evO M σ hi h2).bind fun u h3 => ofOpt (slV h3 x l u) h3
  | .fld a f, h => (ev M σ a h).bind fun x h1 => ofOpt (fldVal M.P h1 x f) h1
  | .isi a t, h => (ev M σ a h).bind fun x h1 => ofOpt ((isiV h1 t x).map .bl) h1
  | .xfld f, h => match M.xn with
    | some (_, fs) => ofOpt (fs.lookup f) h
    | none => .bad
  | .xisi t, h => match M.xn, t with
    | some (c, _), .cls d => .ok (.bl (M.P.sub c d)) h
    | _, _ => .bad
  | .call f es, h => (evs M σ es h).bind fun vs h1 => M.call f vs h1
  | .mk c es, h => (evs M σ es h).bind fun vs h1 => mkV M c vs h1
  | .callk f es ks, h => (evs M σ es h).bind fun vs h1 => (evs M σ ks h1).bind fun ws h2 => M.call f (vs ++ ws) h2
  | .mth o m es, h => (ev M σ o h).bind fun x h1 => match findM M.P x m h1 with
    | some f => (evs M σ es h1).bind fun vs h2 => M.call f (x :: vs) h2
    | none => .bad
  | .bi b es, h => (evs M σ es h).bind fun vs h1 => ofOpt (biV h1 b vs) h1
  | .bm o m es, h => (ev M σ o h).bind fun x h1 => if bmTy h1 m x = true then (evs M σ es h1).bind fun vs h2 => bmV h2 m x vs else .bad
  | .rev a, h => (ev M σ a h).bind fun x h1 => ofOpt (revV h1 x) h1
def evF (M : Pm) (σ : Env) : F → LH → Res (List Val)
  | .disp es, h => (evs M σ es h).bind fun xs h1 => if xs.length ≤ sizeLine then .ok xs h1 else .bad
  | .lc tg it t e, h => (evI M σ it h).bind fun s h1 => match s.len h1 with
    | some n => compN (fun x h => match assignT tg x h (wipeT tg σ) with
        | some σ' => (ev M σ' t h).bind fun c h2 => (ofOpt (truth h2 c) h2).bind fun k h3 => if k = true then (ev M σ' e h3).bind fun y h4 => .ok (some y) h4 else .ok none h3
        | none => .bad) s n 0 [] h1
    | none => .bad
  | .lc0 tg it e, h => (evI M σ it h).bind fun s h1 => match s.len h1 with
    | some n => compN (fun x h => match assignT tg x h (wipeT tg σ) with
        | some σ' => (ev M σ' e h).bind fun y h4 => .ok (some y) h4
        | none => .bad) s n 0 [] h1
    | none => .bad
  | .cat a b, h => (ev M σ a h).bind fun x h1 => (ev M σ b h1).bind fun y h2 => ofOpt (catL h2 x y) h2
  | .rep a b, h => (ev M σ a h).bind fun x h1 => (ev M σ b h1).bind fun y h2 => match y with
    | .int k => ofOpt (repL h2 x k) h2
    | _ => .bad
  | .lslice a lo hi, h => (ev M σ a h).bind fun x h1 => (evO M σ lo h1).bind fun l h2 => (evO M σ hi h2).bind fun u h3 => match x with
    | .tup _ => .bad
    | x => ofOpt ((seqOf h3 x).map fun xs => cutL xs l u) h3
  | .list a, h => (ev M σ a h).bind fun x h1 => ofOpt (seqOf h1 x) h1
def evO (M : Pm) (σ : Env) : Oe → LH → Res (Option Int)
  | .none, h => .ok none h
  | .some e, h => (ev M σ e h).bind fun x h1 => match x with
    | .int i => .ok (some i) h1
    | _ => .bad
def evI (M : Pm) (σ : Env) : Wk → LH → Res Src
  | .val e, h => (ev M σ e h).bind fun x h1 => (ofOpt (srcOf x h1) h1).bind fun s h2 => .ok (.one s) h2
  | .rng a, h => (ev M σ a h).bind fun x h1 => match x with
    | .int j => if rngOk j then .ok (.one (.fix (rngL 0 j.toNat))) h1 else .bad
    | _ => .bad
  | .rng2 a b, h => (ev M σ a h).bind fun x h1 => (ev M σ b h1).bind fun y h2 => match x, y with
    | .int i, .int j => if rngOk i ∧ rngOk j then .ok (.one (.fix (rngL i (j - i).toNat))) h2 else .bad
    | _, _ => .bad
  | .enum e, h => (ev M σ e h).bind fun x h1 => (ofOpt (srcOf x h1) h1).bind fun s h2 => .ok (.enum s) h2
  | .zip a b, h => (ev M σ a h).bind fun x h1 => (ev M σ b h1).bind fun y h2 => (ofOpt (srcOf x h2) h2).bind fun s h3 => (ofOpt (srcOf y h3) h3).bind fun t h4 => .ok (.zip s t) h4
def evs (M : Pm) (σ : Env) : Es → LH → Res (List Val)
  | .nil, h => .ok [] h
  | .cons e r, h => (ev M σ e h).bind fun x h1 => (evs M σ r h1).bind fun xs h2 => .ok (x :: xs) h2
end

/-- where a statement leads -/
inductive SR where
  | nx (σ : Env) (h : LH)
  | rt (v : Val) (h : LH)
  | bk (σ : Env) (h : LH)
  | ct (σ : Env) (h : LH)
  | ex (c : Nat) (fs : List (Nat × Val)) (σ : Env) (h : LH)
  | bad
def Res.sr {α : Type} (σ : Env) (r : Res α) (f : α → LH → SR) : SR :=
  match r with
  | .ok a h => f a h
  | .ex c fs h => .ex c fs σ h
  | .bad => .bad
@[simp] theorem sr_ok {α : Type} (σ : Env) (a : α) (h : LH) (f : α → LH → SR) : (Res.ok a h).sr σ f = f a h := rfl
@[simp] theorem sr_ex {α : Type} (σ : Env) (c : Nat) (fs : List (Nat × Val)) (h : LH) (f : α → LH → SR) : (Res.ex c fs h : Res α).sr σ f = .ex c fs σ h := rfl
@[simp] theorem sr_bad {α : Type} (σ : Env) (f : α → LH → SR) : (Res.bad : Res α).sr σ f = .bad := rfl
def SR.next (r : SR) (f : Env → LH → SR) : SR :=
  match r with
  | .nx σ h => f σ h
  | r => r
@[simp] theorem next_nx (σ : Env) (h : LH) (f : Env → LH → SR) : (SR.nx σ h).next f = f σ h := rfl
@[simp] theorem next_rt (v : Val) (h : LH) (f : Env → LH → SR) : (SR.rt v h).next f = .rt v h := rfl
@[simp] theorem next_bk (σ : Env) (h : LH) (f : Env → LH → SR) : (SR.bk σ h).next f = .bk σ h := rfl
@[simp] theorem next_ct (σ : Env) (h : LH) (f : Env → LH → SR) : (SR.ct σ h).next f = .ct σ h := rfl
@[simp] theorem next_ex (c : Nat) (fs : List (Nat × Val)) (σ : Env) (h : LH) (f : Env → LH → SR) : (SR.ex c fs σ h).next f = .ex c fs σ h := rfl
@[simp] theorem next_bad (f : Env → LH → SR) : (SR.bad).next f = .bad := rfl
def forN (body : Env → LH → SR) (tg : Tg) (s : Src) : Nat → Nat → Env → LH → SR
  | k, i, σ, h => match s.next h i with
    | none => .bad
    | some none => .nx σ h
    | some (some x) => match k with
      | 0 => .bad
      | k + 1 => match assignT tg x h σ with
        | none => .bad
        | some σ' => match body σ' h with
          | .nx σ2 h2 => forN body tg s k (i + 1) σ2 h2
          | .ct σ2 h2 => forN body tg s k (i + 1) σ2 h2
          | .bk σ2 h2 => .nx σ2 h2
          | r => r
def whileN (c : Env → LH → Res Bool) (body : Env → LH → SR) : Nat → Env → LH → SR
  | 0, _, _ => .bad
  | k + 1, σ, h => (c σ h).sr σ fun t h1 => if t = true then match body σ h1 with
      | .nx σ2 h2 => whileN c body k σ2 h2
      | .ct σ2 h2 => whileN c body k σ2 h2
      | .bk σ2 h2 => .nx σ2 h2
      | r => r
    else .nx σ h1
def setSub (o i v : Val) (h : LH) : Option LH :=
  match o with
  | .ref a => match h[a]? with
    | some (.lst xs) => match i with
      | .int k => (L2.ixN xs.length k).map fun j => h.set a (.lst (xs.set j v))
      | _ => none
    | _ => none
  | _ => none
def setFld (P : Prog) (o v : Val) (f : Nat) (h : LH) : Option LH :=
  match o with
  | .ref a => match h[a]? with
    | some (.ins c fs) => if fs.length < 1000 ∧ P.attr c f = true then some (h.set a (.ins c (putN f v fs))) else none
    | _ => none
  | _ => none
/-- the class of an instance -/
def clsV (o : Val) (h : LH) : Option Nat :=
  match o with
  | .ref a => match h[a]? with
    | some (.ins c _) => some c
    | _ => none
  | _ => none
/-- the op of an augmented store -/
def augV (o : Op2) (x y : Val) : Option Val :=
  match o, x, y with
  | .add, .int i, .int j => some (.int (i + j))
  | .sub, .int i, .int j => some (.int (i - j))
  | _, _, _ => none
mutual
def exS (M : Pm) : S → Env → LH → SR
  | .set t e, σ, h => (ev M σ e h).sr σ fun x h1 => match assignT t x h1 σ with
    | some σ' => .nx σ' h1
    | none => .bad
  | .fld o f e, σ, h => (ev M σ e h).sr σ fun y h1 => (ev M σ o h1).sr σ fun x h2 => match setFld M.P x y f h2 with
    | some h3 => .nx σ h3
    | none => .bad
  | .fldA o f op e, σ, h => (ev M σ o h).sr σ fun x h1 => match fldVal M.P h1 x f with
    | some v => (ev M σ e h1).sr σ fun y h2 => match augV op v y with
      | some z => if clsV x h2 = clsV x h1 then match setFld M.P x z f h2 with
        | some h3 => .nx σ h3
        | none => .bad
        else .bad
      | none => .bad
    | none => .bad
  | .aug i op e, σ, h => match σ[i]? with
    | some (some x) => (ev M σ e h).sr σ fun y h1 => match augV op x y with
      | some z => .nx (σ.set i (some z)) h1
      | none => .bad
    | _ => .bad
  | .sub o i e, σ, h => (ev M σ e h).sr σ fun v h1 => (ev M σ o h1).sr σ fun x h2 => (ev M σ i h2).sr σ fun k h3 => match setSub x k v h3 with
    | some h4 => .nx σ h4
    | none => .bad
  | .ex e, σ, h => (ev M σ e h).sr σ fun _ h1 => .nx σ h1
  | .ret e, σ, h => (ev M σ e h).sr σ fun x h1 => .rt x h1
  | .retN, _, h => .rt .non h
  | .ite c a b, σ, h => (ev M σ c h).sr σ fun x h1 => (ofOpt (truth h1 x) h1).sr σ fun t h2 => if t = true then exSs M a σ h2 else exSs M b σ h2
  | .for t it b, σ, h => (evI M σ it h).sr σ fun s h1 => match s.len h1 with
    | some n => forN (exSs M b) t s n 0 σ h1
    | none => .bad
  | .while c b, σ, h => whileN (fun σ h => (ev M σ c h).bind fun x h1 => ofOpt (truth h1 x) h1) (exSs M b) M.wf σ h
  | .brk, σ, h => .bk σ h
  | .cont, σ, h => .ct σ h
  | .pass, σ, h => .nx σ h
  | .raise c es, σ, h => (evs M σ es h).sr σ fun vs h1 => match M.P.exc c with
    | some fs => if fs.length = vs.length then .ex c (fs.zip vs) σ h1 else .bad
    | none => .bad
  | .tryC b hs, σ, h => match exSs M b σ h with
    | .ex c fs σ' h' => exHs M c fs hs σ' h'
    | r => r
def exSs (M : Pm) : Ss → Env → LH → SR
  | .nil, σ, h => .nx σ h
  | .cons s r, σ, h => (exS M s σ h).next fun σ' h' => exSs M r σ' h'
def exHs (M : Pm) (c : Nat) (fs : List (Nat × Val)) : Hs → Env → LH → SR
  | .nil, σ, h => .ex c fs σ h
  | .cons d i s r, σ, h => if M.P.sub c d = true then
      match exSs { M with xn := some (c, fs) } s σ h with
      | .nx σ2 h2 => .nx (match i with | some i => σ2.set i none | none => σ2) h2
      | .rt v h2 => .rt v h2
      | _ => .bad
    else exHs M c fs r σ h
end
/-- a def called, so many calls deep -/
def callN (P : Prog) (wf : Nat) : Nat → Nat → List Val → LH → Res Val
  | 0, _, _, _ => .bad
  | n + 1, f, vs, h => match P.fn f with
    | none => .bad
    | some d => if vs.length = d.np then
        match exSs ⟨P, wf, callN P wf n, none⟩ d.body (vs.map some ++ List.replicate (d.ns - d.np) none) h with
        | .nx _ h' => .ok .non h'
        | .rt v h' => .ok v h'
        | .ex c fs _ h' => .ex c fs h'
        | _ => .bad
      else .bad
end G

set_option maxHeartbeats 2000000
/-! GRel: what the logical values and heap stand for over HandS's abstract heap. -/
namespace G
open PySem PySem.Spec PyProof.Rows L2

/-- the tables by addresses and names -/
structure Tie where
  nm : Nat → Str
  ca : Nat → Addr
  /-- the classes of instances that the text has -/
  has : Nat → Bool
  /-- within a suite: the error's class, its own dict, and what it is logically -/
  xp : Option (Value × Option Addr × Nat × List (Nat × Val)) := none

abbrev Io := Nat → Option Addr
/-- addresses that are kept apart (a list that a comprehension is filling) -/
abbrev Gh := Addr → Prop
def addG (G : Gh) (p : Addr) : Gh := fun q => G q ∨ q = p
/-- no logical object, nothing kept apart stands at p -/
def Av (ι : Io) (G : Gh) (p : Addr) : Prop := (∀ a, ι a ≠ some p) ∧ ¬ G p
/-- a fixed thing at p: it is read as u -/
def Fz (ι : Io) (G : Gh) (H : Hp) (p : Addr) (u : HO) : Prop := Rd H p u ∧ Av ι G p
def TupAt (K : PySem.W.Frag) (ι : Io) (G : Gh) (H : Hp) (p : Addr) (vs : List V) : Prop :=
  Fz ι G H p (.tup vs) ∨ ∃ (o : PySem.Obj) (its : Array Value) (n : Nat), K.lookup p = some o ∧ o.cls = .type "tuple" ∧ o.data = .seq its n ∧ its.size ≤ sizeLine ∧ Vals vs its.toList
def RolAt (K : PySem.W.Frag) (ι : Io) (G : Gh) (H : Hp) (p : Addr) (vs : List V) : Prop :=
  Fz ι G H p (.lst vs) ∨ ∃ (o : PySem.Obj) (its : Array Value) (n : Nat), K.lookup p = some o ∧ o.cls = .type "list" ∧ o.dict = none ∧ o.data = .seq its n ∧ its.size ≤ sizeLine ∧ Vals vs its.toList
theorem TupAt.sq {K : PySem.W.Frag} {ι : Io} {G : Gh} {H : Hp} {p : Addr} {vs : List V} (h : TupAt K ι G H p vs) : SqT K H p vs := by
  rcases h with h | h
  · exact .inl h.1
  · exact .inr h
theorem RolAt.sq {K : PySem.W.Frag} {ι : Io} {G : Gh} {H : Hp} {p : Addr} {vs : List V} (h : RolAt K ι G H p vs) : SqL K H p vs := by
  rcases h with h | h
  · exact .inl h.1
  · exact .inr h

mutual
inductive RV (K : PySem.W.Frag) (ι : Io) (G : Gh) (H : Hp) : V → Val → Prop
  | non : RV K ι G H .non .non
  | bl (b : Bool) : RV K ι G H (.bl b) (.bl b)
  | int (i : Int) : RV K ι G H (.int i) (.int i)
  | str (s : Str) : RV K ι G H (.str s) (.str s)
  | tup {p : Addr} {vs : List V} {xs : List Val} : TupAt K ι G H p vs → RVs K ι G H vs xs → RV K ι G H (.ref p) (.tup xs)
  | lst {p : Addr} {vs : List V} {xs : List Val} : H p = some (.lst vs) → Av ι G p → RVs K ι G H vs xs → RV K ι G H (.ref p) (.lst xs)
  | rol {p : Addr} {vs : List V} {xs : List Val} : RolAt K ι G H p vs → RVs K ι G H vs xs → RV K ι G H (.ref p) (.rol xs)
  | ref {p : Addr} {a : Nat} : ι a = some p → RV K ι G H (.ref p) (.ref a)
inductive RVs (K : PySem.W.Frag) (ι : Io) (G : Gh) (H : Hp) : List V → List Val → Prop
  | nil : RVs K ι G H [] []
  | cons {v : V} {vs : List V} {x : Val} {xs : List Val} : RV K ι G H v x → RVs K ι G H vs xs → RVs K ι G H (v :: vs) (x :: xs)
end

/-- the fields of an instance, of an error -/
inductive RF (K : PySem.W.Frag) (nm : Nat → Str) (ι : Io) (G : Gh) (H : Hp) : List (Str × V) → List (Nat × Val) → Prop
  | nil : RF K nm ι G H [] []
  | cons {f : Nat} {v : V} {x : Val} {gs : List (Str × V)} {fs : List (Nat × Val)} : RV K ι G H v x → RF K nm ι G H gs fs → RF K nm ι G H ((nm f, v) :: gs) ((f, x) :: fs)
inductive RKV (K : PySem.W.Frag) (ι : Io) (G : Gh) (H : Hp) {κ : Type} : List (κ × V) → List (κ × Val) → Prop
  | nil : RKV K ι G H [] []
  | cons {k : κ} {v : V} {x : Val} {gs : List (κ × V)} {fs : List (κ × Val)} : RV K ι G H v x → RKV K ι G H gs fs → RKV K ι G H ((k, v) :: gs) ((k, x) :: fs)
/-- an object of the logical heap -/
inductive RO (K : PySem.W.Frag) (T : Tie) (ι : Io) (G : Gh) (H : Hp) (p : Addr) : Ob → Prop
  | lst {vs : List V} {xs : List Val} : H p = some (.lst vs) → RVs K ι G H vs xs → RO K T ι G H p (.lst xs)
  | ins {c : Nat} {dx : Addr} {gs : List (Str × V)} {fs : List (Nat × Val)} : H p = some (.ins (T.ca c) dx gs) → RF K T.nm ι G H gs fs → T.has c = true → RO K T ι G H p (.ins c fs)
  | dk {gs : List (Key × V)} {kvs : List (Key × Val)} : H p = some (.dK gs) → RKV K ι G H gs kvs → RO K T ι G H p (.dk kvs)
  | dt {gs : List (List Key × V)} {kvs : List (List Key × Val)} : H p = some (.dT gs) → RKV K ι G H gs kvs → RO K T ι G H p (.dt kvs)
structure Rep (K : PySem.W.Frag) (T : Tie) (ι : Io) (G : Gh) (H : Hp) (h : LH) : Prop where
  at_ : ∀ a o, h[a]? = some o → ∃ p, ι a = some p ∧ RO K T ι G H p o
  inj : ∀ a b p, ι a = some p → ι b = some p → a = b
  dom : ∀ a, h.length ≤ a → ι a = none
  gh : ∀ p, G p → ∃ u, H p = some u
  gd : ∀ p, G p → ∀ a, ι a ≠ some p
structure Ext (ι : Io) (H : Hp) (ι' : Io) (H' : Hp) : Prop where
  mono : ∀ a p, ι a = some p → ι' a = some p
  keep : ∀ p o, H p = some o → (∀ a, ι a ≠ some p) → H' p = some o
  new : ∀ a p, ι' a = some p → ι a = some p ∨ (H p = none ∧ ∀ b, ι b ≠ some p)
theorem Ext.refl (ι : Io) (H : Hp) : Ext ι H ι H := ⟨fun _ _ e => e, fun _ _ e _ => e, fun _ _ e => .inl e⟩
section
variable {K : PySem.W.Frag} {T : Tie} {ι ι' ι2 : Io} {G G' : Gh} {H H' H2 : Hp} {h h' : LH}
theorem Ext.out (e : Ext ι H ι' H') {p : Addr} {o : HO} (hp : H p = some o) (n : ∀ a, ι a ≠ some p) : ∀ a, ι' a ≠ some p := fun a q => by
  rcases e.new a p q with z | ⟨z, _⟩
  · exact n a z
  · rw [hp] at z; cases z
theorem Ext.trans (e : Ext ι H ι' H') (f : Ext ι' H' ι2 H2) : Ext ι H ι2 H2 where
  mono := fun a p q => f.mono a p (e.mono a p q)
  keep := fun p o q n => f.keep p o (e.keep p o q n) (e.out q n)
  new := fun a p q => by
    rcases f.new a p q with z | ⟨z, n⟩
    · exact e.new a p z
    · have n0 : ∀ b, ι b ≠ some p := fun b hb => n b (e.mono b p hb)
      refine .inr ⟨?_, n0⟩
      cases w : H p with
      | none => rfl
      | some o => rw [e.keep p o w n0] at z; cases z
/-- what is fixed stays fixed -/
def Kp (ι : Io) (G : Gh) (H : Hp) (ι' : Io) (G' : Gh) (H' : Hp) : Prop := (∀ a p, ι a = some p → ι' a = some p) ∧ ∀ p o, H p = some o → Av ι G p → H' p = some o ∧ Av ι' G' p
theorem Ext.kp (e : Ext ι H ι' H') : Kp ι G H ι' G H' := ⟨e.mono, fun p o hp av => ⟨e.keep p o hp av.1, e.out hp av.1, av.2⟩⟩
theorem Fz.kp {p : Addr} {u : HO} (k : Kp ι G H ι' G' H') (h : Fz ι G H p u) : Fz ι' G' H' p u := by
  obtain ⟨r, n⟩ := h
  rcases r with r | ⟨o, r⟩
  · obtain ⟨a, b⟩ := k.2 p _ r n; exact ⟨.inl a, b⟩
  · obtain ⟨a, b⟩ := k.2 p _ r n; exact ⟨.inr ⟨o, a⟩, b⟩
theorem TupAt.kp {p : Addr} {vs : List V} (k : Kp ι G H ι' G' H') (h : TupAt K ι G H p vs) : TupAt K ι' G' H' p vs := by
  rcases h with h | h
  · exact .inl (h.kp k)
  · exact .inr h
theorem RolAt.kp {p : Addr} {vs : List V} (k : Kp ι G H ι' G' H') (h : RolAt K ι G H p vs) : RolAt K ι' G' H' p vs := by
  rcases h with h | h
  · exact .inl (h.kp k)
  · exact .inr h
mutual
theorem RV.kp (k : Kp ι G H ι' G' H') : ∀ {x : Val} {v : V}, RV K ι G H v x → RV K ι' G' H' v x
  | _, _, .non => .non
  | _, _, .bl b => .bl b
  | _, _, .int i => .int i
  | _, _, .str s => .str s
  | _, _, .tup h r => .tup (h.kp k) (RVs.kp k r)
  | _, _, .lst h n r => .lst (k.2 _ _ h n).1 (k.2 _ _ h n).2 (RVs.kp k r)
  | _, _, .rol h r => .rol (h.kp k) (RVs.kp k r)
  | _, _, .ref h => .ref (k.1 _ _ h)
theorem RVs.kp (k : Kp ι G H ι' G' H') : ∀ {xs : List Val} {vs : List V}, RVs K ι G H vs xs → RVs K ι' G' H' vs xs
  | _, _, .nil => .nil
  | _, _, .cons h r => .cons (RV.kp k h) (RVs.kp k r)
end
theorem RF.kp {nm : Nat → Str} (k : Kp ι G H ι' G' H') : ∀ {fs : List (Nat × Val)} {gs : List (Str × V)}, RF K nm ι G H gs fs → RF K nm ι' G' H' gs fs
  | _, _, .nil => .nil
  | _, _, .cons h r => .cons (h.kp k) (RF.kp k r)
theorem RKV.kp {κ : Type} (k : Kp ι G H ι' G' H') : ∀ {fs : List (κ × Val)} {gs : List (κ × V)}, RKV K ι G H gs fs → RKV K ι' G' H' gs fs
  | _, _, .nil => .nil
  | _, _, .cons h r => .cons (h.kp k) (RKV.kp k r)
theorem RV.mono (e : Ext ι H ι' H') {x : Val} {v : V} (r : RV K ι G H v x) : RV K ι' G H' v x := r.kp e.kp
theorem RVs.mono (e : Ext ι H ι' H') {x : List Val} {v : List V} (r : RVs K ι G H v x) : RVs K ι' G H' v x := r.kp e.kp
theorem RF.mono {nm : Nat → Str} (e : Ext ι H ι' H') {fs : List (Nat × Val)} {gs : List (Str × V)} (r : RF K nm ι G H gs fs) : RF K nm ι' G H' gs fs := r.kp e.kp
theorem RKV.mono {κ : Type} (e : Ext ι H ι' H') {fs : List (κ × Val)} {gs : List (κ × V)} (r : RKV K ι G H gs fs) : RKV K ι' G H' gs fs := r.kp e.kp

/-! ### lists of related values -/
theorem RVs.length : ∀ {xs : List Val} {vs : List V}, RVs K ι G H vs xs → vs.length = xs.length
  | _, _, .nil => rfl
  | _, _, .cons _ r => by simp [RVs.length r]
theorem RVs.get : ∀ {xs : List Val} {vs : List V} {i : Nat} {x : Val}, RVs K ι G H vs xs → xs[i]? = some x → ∃ v, vs[i]? = some v ∧ RV K ι G H v x
  | _, _, _, _, .nil, e => by simp at e
  | _, _, 0, _, .cons h _, e => by simp at e; subst e; exact ⟨_, rfl, h⟩
  | _, _, i + 1, x, .cons _ r, e => by
    obtain ⟨v, h1, h2⟩ := RVs.get (i := i) (x := x) r (by simpa using e)
    exact ⟨v, by simpa using h1, h2⟩
theorem RVs.append : ∀ {xs ys : List Val} {vs ws : List V}, RVs K ι G H vs xs → RVs K ι G H ws ys → RVs K ι G H (vs ++ ws) (xs ++ ys)
  | _, _, _, _, .nil, s => s
  | _, _, _, _, .cons h r, s => .cons h (RVs.append r s)
theorem RVs.take : ∀ {xs : List Val} {vs : List V} (n : Nat), RVs K ι G H vs xs → RVs K ι G H (vs.take n) (xs.take n)
  | _, _, 0, _ => .nil
  | _, _, _ + 1, .nil => .nil
  | _, _, n + 1, .cons h r => .cons h (RVs.take n r)
theorem RVs.drop : ∀ {xs : List Val} {vs : List V} (n : Nat), RVs K ι G H vs xs → RVs K ι G H (vs.drop n) (xs.drop n)
  | _, _, 0, r => r
  | _, _, _ + 1, .nil => .nil
  | _, _, n + 1, .cons _ r => RVs.drop n r
theorem RVs.reverse : ∀ {xs : List Val} {vs : List V}, RVs K ι G H vs xs → RVs K ι G H vs.reverse xs.reverse
  | _, _, .nil => .nil
  | _, _, .cons h r => by
    rw [List.reverse_cons, List.reverse_cons]
    exact (RVs.reverse r).append (.cons h .nil)
theorem RVs.set {v : V} {x : Val} (q : RV K ι G H v x) : ∀ {xs : List Val} {vs : List V} (i : Nat), RVs K ι G H vs xs → RVs K ι G H (vs.set i v) (xs.set i x)
  | _, _, _, .nil => .nil
  | _, _, 0, .cons _ r => .cons q r
  | _, _, i + 1, .cons h r => .cons h (RVs.set q i r)
theorem RVs.dropLast {xs : List Val} {vs : List V} (r : RVs K ι G H vs xs) : RVs K ι G H vs.dropLast xs.dropLast := by
  rw [List.dropLast_eq_take, List.dropLast_eq_take, r.length]
  exact r.take _
theorem RVs.eraseIdx : ∀ {xs : List Val} {vs : List V} (i : Nat), RVs K ι G H vs xs → RVs K ι G H (vs.eraseIdx i) (xs.eraseIdx i)
  | _, _, _, .nil => .nil
  | _, _, 0, .cons _ r => r
  | _, _, i + 1, .cons h r => .cons h (RVs.eraseIdx i r)
theorem RVs.rep {xs : List Val} {vs : List V} (r : RVs K ι G H vs xs) : ∀ k : Nat, RVs K ι G H (List.replicate k vs).flatten (List.replicate k xs).flatten
  | 0 => .nil
  | k + 1 => by
    rw [List.replicate_succ, List.replicate_succ, List.flatten_cons, List.flatten_cons]
    exact r.append (RVs.rep r k)
theorem RVs.cut {xs : List Val} {vs : List V} (r : RVs K ι G H vs xs) (lo hi : Option Int) : RVs K ι G H (cutV vs lo hi) (cutL xs lo hi) := by
  unfold cutV cutL
  rw [r.length]
  exact (r.drop _).take _
theorem RVs.of_get : ∀ {vs : List V} {xs : List Val}, vs.length = xs.length → (∀ (i : Nat) v x, vs[i]? = some v → xs[i]? = some x → RV K ι G H v x) → RVs K ι G H vs xs
  | [], [], _, _ => .nil
  | [], _ :: _, e, _ => by simp at e
  | _ :: _, [], e, _ => by simp at e
  | v :: vs, x :: xs, e, h => .cons (h 0 v x rfl rfl) (RVs.of_get (by simpa using e) fun i v x e1 e2 => h (i + 1) v x (by simpa using e1) (by simpa using e2))

/-! ### the logical heap's changes -/
/-- where the address of a logical object is known -/
theorem Rep.obj (R : Rep K T ι G H h) {a : Nat} {p : Addr} {o : Ob} (e : ι a = some p) (ho : h[a]? = some o) : RO K T ι G H p o := by
  obtain ⟨q, e2, r⟩ := R.at_ a o ho
  rw [e] at e2; cases e2
  exact r
theorem RO.some (r : RO K T ι G H p o) : ∃ u, H p = some u := by
  cases r with
  | lst e _ => exact ⟨_, e⟩
  | ins e _ _ => exact ⟨_, e⟩
  | dk e _ => exact ⟨_, e⟩
  | dt e _ => exact ⟨_, e⟩
theorem Rep.there (R : Rep K T ι G H h) {a : Nat} {p : Addr} (e : ι a = some p) : ∃ o, h[a]? = some o := by
  by_cases l : a < h.length
  · exact ⟨h[a], by simp [l]⟩
  · rw [R.dom a (by omega)] at e; cases e
theorem Rep.live (R : Rep K T ι G H h) {a : Nat} {p : Addr} (e : ι a = some p) : ∃ u, H p = some u := by
  obtain ⟨o, ho⟩ := R.there e
  exact (R.obj e ho).some
/-- a free address is no logical object's -/
theorem Rep.free (R : Rep K T ι G H h) {p : Addr} (e : H p = none) : ∀ a, ι a ≠ some p := fun a q => by
  obtain ⟨u, hu⟩ := R.live q
  rw [e] at hu; cases hu
/-- .. and nothing that is kept apart -/
theorem Rep.freeG (R : Rep K T ι G H h) {p : Addr} (e : H p = none) : ¬ G p := fun g => by
  obtain ⟨u, hu⟩ := R.gh p g
  rw [e] at hu; cases hu
theorem Rep.av (R : Rep K T ι G H h) {p : Addr} (e : H p = none) : Av ι G p := ⟨R.free e, R.freeG e⟩
/-- free behind a change, free ahead of it -/
theorem Ext.fresh (e : Ext ι H ι' H') (R : Rep K T ι' G H' h) {p : Addr} (hp : H' p = none) : H p = none := by
  cases w : H p with
  | none => rfl
  | some o =>
    by_cases n : ∀ a, ι a ≠ some p
    · rw [e.keep p o w n] at hp; cases hp
    · have ⟨a, ha⟩ : ∃ a, ι a = some p := Classical.byContradiction fun hc => n fun b hb => hc ⟨b, hb⟩
      exact absurd (e.mono a p ha) (R.free hp a)
/-- something fixed is laid at a free address -/
theorem Rep.lay (R : Rep K T ι G H h) {p : Addr} {o : HO} (e : H p = none) : Ext ι H ι (upd H p o) :=
  ⟨fun _ _ q => q, fun q u hq _ => by rw [upd_ne (ne_of_none hq e)]; exact hq, fun _ _ q => .inl q⟩
theorem RO.mono (e : Ext ι H ι' H') {p : Addr} {o : Ob} (hp : H' p = H p) (r : RO K T ι G H p o) : RO K T ι' G H' p o := by
  cases r with
  | lst q r => exact .lst (hp.trans q) (r.mono e)
  | ins q r t => exact .ins (hp.trans q) (r.mono e) t
  | dk q r => exact .dk (hp.trans q) (r.mono e)
  | dt q r => exact .dt (hp.trans q) (r.mono e)
theorem Rep.laid (R : Rep K T ι G H h) {p : Addr} {o : HO} (e : H p = none) : Rep K T ι G (upd H p o) h where
  at_ := fun a ob ho => by
    obtain ⟨q, e1, r⟩ := R.at_ a ob ho
    exact ⟨q, e1, r.mono (R.lay e) (upd_ne fun z => R.free e a (by rw [← z]; exact e1))⟩
  inj := R.inj
  dom := R.dom
  gh := fun q g => let ⟨u, hu⟩ := R.gh q g; ⟨u, by rw [upd_ne (ne_of_none hu e)]; exact hu⟩
  gd := R.gd
/-- a logical object is new: at p, where something lies already that nothing else speaks of (q: free ahead) -/
def ins (ι : Io) (a : Nat) (p : Addr) : Io := fun b => if b = a then some p else ι b
theorem Rep.newExt (R : Rep K T ι G H h) {p : Addr} (e : H p = none) (k : ∀ q u, H q = some u → q ≠ p → H' q = some u) : Ext ι H (ins ι h.length p) H' where
  mono := fun a q hq => by
    unfold ins
    split
    · rename_i z
      rw [R.dom a (by omega)] at hq; cases hq
    · exact hq
  keep := fun q u hq _ => k q u hq (ne_of_none hq e)
  new := fun a q hq => by
    unfold ins at hq
    split at hq
    · cases hq; exact .inr ⟨e, R.free e⟩
    · exact .inl hq
theorem Rep.new (R : Rep K T ι G H h) {p : Addr} {o : Ob} (e : H p = none) (k : ∀ q u, H q = some u → q ≠ p → H' q = some u) (r : RO K T (ins ι h.length p) G H' p o) : Rep K T (ins ι h.length p) G H' (h ++ [o]) where
  at_ := fun a ob ho => by
    by_cases l : a < h.length
    · rw [List.getElem?_append_left l] at ho
      obtain ⟨q, e1, r1⟩ := R.at_ a ob ho
      obtain ⟨u, hu⟩ := R.live e1
      refine ⟨q, (R.newExt e k).mono _ _ e1, r1.mono (R.newExt e k) ?_⟩
      rw [hu]
      exact k q u hu (ne_of_none hu e)
    · rw [List.getElem?_append_right (by omega)] at ho
      have z : a = h.length := by
        cases w : a - h.length with
        | zero => omega
        | succ n => rw [w] at ho; simp at ho
      subst z
      simp at ho
      subst ho
      exact ⟨p, by unfold ins; simp, r⟩
  inj := fun a b q h1 h2 => by
    unfold ins at h1 h2
    split at h1 <;> split at h2
    · omega
    · cases h1; exact absurd h2 (R.free e b)
    · cases h2; exact absurd h1 (R.free e a)
    · exact R.inj a b q h1 h2
  dom := fun a ha => by
    unfold ins
    have : h.length + 1 ≤ a := by simpa using ha
    rw [if_neg (by omega)]
    exact R.dom a (by omega)
  gh := fun q g => let ⟨u, hu⟩ := R.gh q g; ⟨u, k q u hu (ne_of_none hu e)⟩
  gd := fun q g a => by
    unfold ins
    split
    · intro z
      cases z
      obtain ⟨u, hu⟩ := R.gh _ g
      rw [e] at hu; cases hu
    · exact R.gd q g a
/-- a logical object changes -/
theorem Rep.setExt (R : Rep K T ι G H h) {a : Nat} {p : Addr} {u : HO} (e : ι a = some p) : Ext ι H ι (upd H p u) :=
  ⟨fun _ _ q => q, fun q w hq n => by rw [upd_ne (fun z => n a (by rw [z]; exact e))]; exact hq, fun _ _ q => .inl q⟩
theorem Rep.set (R : Rep K T ι G H h) {a : Nat} {p : Addr} {u : HO} {o : Ob} (e : ι a = some p) (r : RO K T ι G (upd H p u) p o) : Rep K T ι G (upd H p u) (h.set a o) where
  at_ := fun b ob ho => by
    by_cases z : b = a
    · subst z
      obtain ⟨o', ho'⟩ := R.there e
      have l : b < h.length := (List.getElem?_eq_some_iff.mp ho').1
      rw [List.getElem?_set_self l] at ho
      cases ho
      exact ⟨p, e, r⟩
    · rw [List.getElem?_set_ne (Ne.symm z)] at ho
      obtain ⟨q, e1, r1⟩ := R.at_ b ob ho
      exact ⟨q, e1, r1.mono (R.setExt e) (upd_ne fun w => z (R.inj b a p (by rw [← w]; exact e1) e))⟩
  inj := R.inj
  dom := fun b hb => R.dom b (by simpa using hb)
  gh := fun q g => let ⟨w, hw⟩ := R.gh q g; ⟨w, by rw [upd_ne (fun z => R.gd q g a (by rw [z]; exact e))]; exact hw⟩
  gd := R.gd

/-! ### a list that is kept apart -/
theorem kp_drop {p : Addr} : Kp ι (addG G p) H ι G H := ⟨fun _ _ e => e, fun q o hq av => ⟨hq, av.1, fun g => av.2 (.inl g)⟩⟩
theorem kp_box {p : Addr} (R : Rep K T ι (addG G p) H h) : Kp ι (addG G p) H (ins ι h.length p) G H := by
  refine ⟨fun a q e => ?_, fun q o hq av => ⟨hq, fun a => ?_, fun g => av.2 (.inl g)⟩⟩
  · unfold ins
    split
    · rename_i z
      rw [R.dom a (by omega)] at e; cases e
    · exact e
  · unfold ins
    split
    · intro z; cases z; exact av.2 (.inr rfl)
    · exact av.1 a
theorem RO.kp (k : Kp ι G H ι' G' H') {p : Addr} {o : Ob} (hp : H' p = H p) (r : RO K T ι G H p o) : RO K T ι' G' H' p o := by
  cases r with
  | lst q r => exact .lst (hp.trans q) (r.kp k)
  | ins q r t => exact .ins (hp.trans q) (r.kp k) t
  | dk q r => exact .dk (hp.trans q) (r.kp k)
  | dt q r => exact .dt (hp.trans q) (r.kp k)
/-- it is kept apart no more -/
theorem Rep.drop {p : Addr} (R : Rep K T ι (addG G p) H h) : Rep K T ι G H h where
  at_ := fun a o ho => let ⟨q, e, r⟩ := R.at_ a o ho; ⟨q, e, r.kp kp_drop rfl⟩
  inj := R.inj
  dom := R.dom
  gh := fun q g => R.gh q (.inl g)
  gd := fun q g => R.gd q (.inl g)
/-- a fresh address is kept apart -/
theorem Rep.add {p : Addr} {u : HO} (R : Rep K T ι G H h) (e : H p = none) : Rep K T ι (addG G p) (upd H p u) h where
  at_ := fun a o ho => by
    obtain ⟨q, e1, r⟩ := R.at_ a o ho
    refine ⟨q, e1, r.kp ⟨fun _ _ z => z, fun q' o' hq av => ⟨by rw [upd_ne (ne_of_none hq e)]; exact hq, av.1, ?_⟩⟩ (upd_ne fun z => R.free e a (by rw [← z]; exact e1))⟩
    rintro (g | g)
    · exact av.2 g
    · exact ne_of_none hq e g
  inj := R.inj
  dom := R.dom
  gh := fun q g => by
    rcases g with g | g
    · obtain ⟨w, hw⟩ := R.gh q g
      exact ⟨w, by rw [upd_ne (ne_of_none hw e)]; exact hw⟩
    · subst g; exact ⟨u, upd_same⟩
  gd := fun q g => by
    rcases g with g | g
    · exact R.gd q g
    · subst g; exact R.free e
theorem kp_add {p : Addr} {u : HO} (R : Rep K T ι G H h) (e : H p = none) : Kp ι G H ι (addG G p) (upd H p u) := ⟨fun _ _ z => z, fun q' o' hq av => ⟨by rw [upd_ne (ne_of_none hq e)]; exact hq, av.1, by
    rintro (g | g)
    · exact av.2 g
    · exact ne_of_none hq e g⟩⟩
/-- its content changes -/
theorem Rep.setG {p : Addr} {u : HO} (R : Rep K T ι G H h) (g : G p) : Rep K T ι G (upd H p u) h where
  at_ := fun a o ho => by
    obtain ⟨q, e1, r⟩ := R.at_ a o ho
    exact ⟨q, e1, r.kp ⟨fun _ _ z => z, fun q' o' hq av => ⟨by rw [upd_ne (fun z => av.2 (by rw [z]; exact g))]; exact hq, av⟩⟩ (upd_ne fun z => R.gd p g a (by rw [← z]; exact e1))⟩
  inj := R.inj
  dom := R.dom
  gh := fun q g' => by
    by_cases z : q = p
    · subst z; exact ⟨u, upd_same⟩
    · rw [upd_ne z]; exact R.gh q g'
  gd := R.gd
theorem kp_setG {p : Addr} {u : HO} (g : G p) : Kp ι G H ι G (upd H p u) := ⟨fun _ _ z => z, fun q' o' hq av => ⟨by rw [upd_ne (fun z => av.2 (by rw [z]; exact g))]; exact hq, av⟩⟩
/-- .. it becomes a logical object -/
theorem Rep.box {p : Addr} {o : Ob} (R : Rep K T ι (addG G p) H h) (nG : ¬ G p) (r : RO K T ι (addG G p) H p o) : Rep K T (ins ι h.length p) G H (h ++ [o]) where
  at_ := fun a ob ho => by
    by_cases l : a < h.length
    · rw [List.getElem?_append_left l] at ho
      obtain ⟨q, e1, r1⟩ := R.at_ a ob ho
      exact ⟨q, (kp_box R).1 _ _ e1, r1.kp (kp_box R) rfl⟩
    · rw [List.getElem?_append_right (by omega)] at ho
      have z : a = h.length := by
        cases w : a - h.length with
        | zero => omega
        | succ n => rw [w] at ho; simp at ho
      subst z
      simp at ho
      subst ho
      exact ⟨p, by unfold ins; simp, r.kp (kp_box R) rfl⟩
  inj := fun a b q h1 h2 => by
    unfold ins at h1 h2
    split at h1 <;> split at h2
    · omega
    · cases h1; exact absurd h2 (R.gd p (.inr rfl) b)
    · cases h2; exact absurd h1 (R.gd p (.inr rfl) a)
    · exact R.inj a b q h1 h2
  dom := fun a ha => by
    unfold ins
    have : h.length + 1 ≤ a := by simpa using ha
    rw [if_neg (by omega)]
    exact R.dom a (by omega)
  gh := fun q g => R.gh q (.inl g)
  gd := fun q g a => by
    unfold ins
    split
    · intro z; cases z; exact nG g
    · exact R.gd q (.inl g) a

/-- an error as HandS hands it on -/
def RX (K : PySem.W.Frag) (T : Tie) (ι : Io) (G : Gh) (H : Hp) (cls : Value) (d : Option Addr) (c : Nat) (fs : List (Nat × Val)) : Prop :=
  cls = .ref (T.ca c) ∧ (fs = [] ∨ ∃ (dd : Addr) (gs : List (Str × V)), d = some dd ∧ H dd = some (.xd gs) ∧ Av ι G dd ∧ RF K T.nm ι G H gs fs)
theorem RX.kp {cls : Value} {d : Option Addr} {c : Nat} {fs : List (Nat × Val)} (k : Kp ι G H ι' G' H') (r : RX K T ι G H cls d c fs) : RX K T ι' G' H' cls d c fs := by
  obtain ⟨r1, r2⟩ := r
  refine ⟨r1, ?_⟩
  rcases r2 with r2 | ⟨dd, gs, h1, h2, h3, h4⟩
  · exact .inl r2
  · exact .inr ⟨dd, gs, h1, (k.2 _ _ h2 h3).1, (k.2 _ _ h2 h3).2, h4.kp k⟩
theorem RX.mono {cls : Value} {d : Option Addr} {c : Nat} {fs : List (Nat × Val)} (e : Ext ι H ι' H') (r : RX K T ι G H cls d c fs) : RX K T ι' G H' cls d c fs := r.kp e.kp
def XOk (K : PySem.W.Frag) (T : Tie) (ι : Io) (G : Gh) (H : Hp) : Prop :=
  match T.xp with
  | none => True
  | some (cls, d, c, fs) => RX K T ι G H cls d c fs
theorem XOk.kp (k : Kp ι G H ι' G' H') (r : XOk K T ι G H) : XOk K T ι' G' H' := by
  unfold XOk at r ⊢
  split
  · trivial
  · rename_i e
    rw [e] at r
    exact RX.kp k r
/-- the same of another suite -/
theorem RO.tie {p : Addr} {o : Ob} {y : Option (Value × Option Addr × Nat × List (Nat × Val))} (r : RO K T ι G H p o) : RO K { T with xp := y } ι G H p o := by
  cases r with
  | lst q r => exact .lst q r
  | ins q r t => exact .ins q r t
  | dk q r => exact .dk q r
  | dt q r => exact .dt q r
theorem Rep.tie {y : Option (Value × Option Addr × Nat × List (Nat × Val))} (R : Rep K T ι G H h) : Rep K { T with xp := y } ι G H h :=
  ⟨fun a o ho => let ⟨p, e, r⟩ := R.at_ a o ho; ⟨p, e, r.tie⟩, R.inj, R.dom, R.gh, R.gd⟩
theorem RO.untie {p : Addr} {o : Ob} {y : Option (Value × Option Addr × Nat × List (Nat × Val))} (r : RO K { T with xp := y } ι G H p o) : RO K T ι G H p o := by
  cases r with
  | lst q r => exact .lst q r
  | ins q r t => exact .ins q r t
  | dk q r => exact .dk q r
  | dt q r => exact .dt q r
theorem Rep.untie {y : Option (Value × Option Addr × Nat × List (Nat × Val))} (R : Rep K { T with xp := y } ι G H h) : Rep K T ι G H h :=
  ⟨fun a o ho => let ⟨p, e, r⟩ := R.at_ a o ho; ⟨p, e, r.untie⟩, R.inj, R.dom, R.gh, R.gd⟩

/-! ### the slots -/
structure RE (K : PySem.W.Frag) (T : Tie) (ι : Io) (G : Gh) (H : Hp) (σ : L2.St) (env : Env) : Prop where
  len : σ.length = env.length
  at_ : ∀ (i : Nat) x, env[i]? = some (some x) → ∃ v, σ[i]? = some (some v) ∧ RV K ι G H v x
  x : XOk K T ι G H
theorem RE.kp {σ : L2.St} {env : Env} (k : Kp ι G H ι' G' H') (r : RE K T ι G H σ env) : RE K T ι' G' H' σ env :=
  ⟨r.len, fun i x q => let ⟨v, h1, h2⟩ := r.at_ i x q; ⟨v, h1, h2.kp k⟩, r.x.kp k⟩
theorem RE.mono {σ : L2.St} {env : Env} (e : Ext ι H ι' H') (r : RE K T ι G H σ env) : RE K T ι' G H' σ env := r.kp e.kp
theorem RE.set {σ : L2.St} {env : Env} (r : RE K T ι G H σ env) {i : Nat} {v : V} {x : Val} (q : RV K ι G H v x) : RE K T ι G H (σ.set i (some v)) (env.set i (some x)) where
  len := by simp [r.len]
  at_ := fun j y e => by
    by_cases z : i = j
    · subst z
      by_cases l : i < env.length
      · rw [List.getElem?_set_self l] at e
        cases e
        exact ⟨v, List.getElem?_set_self (by rw [r.len]; exact l), q⟩
      · rw [List.getElem?_eq_none (by simp; omega)] at e; cases e
    · rw [List.getElem?_set_ne z] at e
      obtain ⟨v', h1, h2⟩ := r.at_ j y e
      exact ⟨v', by rw [List.getElem?_set_ne z]; exact h1, h2⟩
  x := r.x
theorem RE.setN {σ : L2.St} {env : Env} (r : RE K T ι G H σ env) (i : Nat) : RE K T ι G H (σ.set i none) (env.set i none) where
  len := by simp [r.len]
  at_ := fun j y e => by
    by_cases z : i = j
    · subst z
      by_cases l : i < env.length
      · rw [List.getElem?_set_self l] at e; cases e
      · rw [List.getElem?_eq_none (by simp; omega)] at e; cases e
    · rw [List.getElem?_set_ne z] at e
      obtain ⟨v', h1, h2⟩ := r.at_ j y e
      exact ⟨v', by rw [List.getElem?_set_ne z]; exact h1, h2⟩
  x := r.x
end
end G

set_option maxHeartbeats 4000000
/-! GRev: xs[::-1] of lists and tuples. -/
namespace G
open PySem PySem.Spec PyProof.Rows L2 HT
section
variable {prog : Program} {w : World} {A : Around} {E : Value → Shared → Prop} {s : Shared}
theorem places_rev (n : Nat) : Builtin.Slice.slicePlaces ((n : Int) - 1) (-1) (-1) = n := by
  unfold Builtin.Slice.slicePlaces
  have h1 : ¬ ((-1 : Int) > 0) := by omega
  simp only [h1, if_false]
  by_cases h : (n : Int) - 1 > -1
  · rw [if_pos h]
    have : ((n : Int) - 1 - -1 - 1) / (- -1) = (n : Int) - 1 := by
      rw [show (- -1 : Int) = 1 from rfl, Int.ediv_one]; omega
    rw [this]; omega
  · rw [if_neg h]; omega
theorem sliceApplied_rev {sl : Addr} {vl vu vs : Value} {n : Nat} {Q : Int × Int × Nat → Shared → Prop} (hs : s.heap.IsSliceOf sl vl vu vs) (pl : IsPart vl none) (pu : IsPart vu none) (ps : IsPart vs (some (-1)))
    (h : Q ((n : Int) - 1, -1, n) s) : wpAny (model prog w) A (Builtin.Slice.sliceApplied (.ref sl) (pure (n : Int))) Q E s := by
  obtain ⟨os, hos, hcs, hds⟩ := id hs
  unfold Builtin.Slice.sliceApplied Builtin.Slice.sliceFields
  refine wpAny_bind (wpAny_bind (wpAny_field hos hds (x := vl) rfl (wpAny_bind (wpAny_field hos hds (x := vu) rfl (wpAny_bind (wpAny_field hos hds (x := vs) rfl (wpAny_pure ?_)))))))
  refine wpAny_bind (slicePart_ ps ?_)
  show wpAny _ _ (if ((-1 : Int) == 0) = true then _ else _) _ _ s
  rw [if_neg (by decide)]
  refine wpAny_bind (slicePart_ pl (wpAny_bind (slicePart_ pu (wpAny_bind (wpAny_pure ?_)))))
  show wpAny _ _ (pure ((n : Int) - 1, (-1 : Int), Builtin.Slice.slicePlaces ((n : Int) - 1) (-1) (-1))) _ _ s
  rw [places_rev]
  exact wpAny_pure h
theorem fm_congr {α β : Type} {f g : α → Option β} : ∀ {l : List α}, (∀ x ∈ l, f x = g x) → l.filterMap f = l.filterMap g
  | [], _ => rfl
  | x :: l, h => by
    rw [List.filterMap_cons, List.filterMap_cons, h x List.mem_cons_self, fm_congr fun y hy => h y (List.mem_cons_of_mem _ hy)]
theorem pick_rev (xs : Array Value) : ((List.range xs.size).filterMap fun (m : Nat) => xs[((xs.size : Int) - 1 + (m : Int) * -1).toNat]?).toArray = xs.toList.reverse.toArray := by
  have e : ((List.range xs.size).filterMap fun (m : Nat) => xs[((xs.size : Int) - 1 + (m : Int) * -1).toNat]?) = xs.toList.reverse := by
    have e1 : ((List.range xs.size).filterMap fun (m : Nat) => xs[((xs.size : Int) - 1 + (m : Int) * -1).toNat]?) = (List.range xs.size).filterMap fun (m : Nat) => xs.toList.reverse[m]? := by
      refine fm_congr fun m hm => ?_
      have hm : m < xs.size := List.mem_range.mp hm
      rw [List.getElem?_reverse (by simpa using hm)]
      have : ((xs.size : Int) - 1 + (m : Int) * -1).toNat = xs.toList.length - 1 - m := by simp; omega
      rw [this]
      simp
    rw [e1]
    have key : ∀ l : List Value, (List.range l.length).filterMap (fun m => l[m]?) = l := by
      intro l
      induction l with
      | nil => rfl
      | cons a l ih =>
        rw [List.length_cons, List.range_succ_eq_map, List.filterMap_cons]
        simp only [List.getElem?_cons_zero, List.filterMap_map]
        congr 1
    have := key xs.toList.reverse
    simpa using this
  rw [e]
theorem getItem_tuple_rev {t sl : Addr} {items : Array Value} {vl vu vs : Value} {Q : Value → Shared → Prop} (ht : IsTup s.heap t items) (hs : s.heap.IsSliceOf sl vl vu vs) (pl : IsPart vl none) (pu : IsPart vu none) (ps : IsPart vs (some (-1)))
    (h : Q (.ref s.heap.objs.size) { s with heap := s.heap.push { cls := .type "tuple", data := .seq items.toList.reverse.toArray } })
    (hsz : items.size ≤ sizeLine) : wpAny (model prog w) A (getItem (.ref t) (.ref sl)) Q E s := by
  have htake : sizeOk (.seq items.toList.reverse.toArray) := by
    show items.toList.reverse.toArray.size ≤ sizeLine
    simpa using hsz
  obtain ⟨os, hos, hcs, hds⟩ := id hs
  have hTs : s.TypeIs (.ref sl) "slice" := ⟨os, hos, hcs⟩
  unfold getItem
  try with_reducible refine wpAny_holding ?_
  first | refine wpAny_bind (wpAny_pure ?_) | skip
  refine wpAny_bind (wpAny_sequenceKey ht.typeIs (by decide) ?_)
  refine wpAny_bind (wpAny_callSpecial?_slot (name := Str.ofString "__getitem__") ht.typeIs PyProof.Rows.slot_tuple_getitem
    (wpAny_call_entry PyProof.Rows.slot_tuple_getitem ht.typeIs entry_tuple_getitem ?_ (args_tuple_getitem _ _)))
  show wpAny _ _ (Builtin.Tuple.tupleItemsOf (.ref t) >>= _) _ _ s
  refine wpAny_bind (tupleItemsOf_ ht ?_)
  refine wpAny_bind (wpAny_typeOf hTs ?_)
  rw [if_pos (by decide)]
  refine wpAny_bind (sliceApplied_rev hs pl pu ps ?_)
  have hno : ¬ (((items.size : Int) - 1 == 0 && (-1 : Int) == 1 && items.size == items.size) = true) := by
    intro q
    rw [Bool.and_eq_true, Bool.and_eq_true] at q
    exact absurd q.1.2 (by decide)
  show wpAny _ _ (if ((items.size : Int) - 1 == 0 && (-1 : Int) == 1 && items.size == items.size) = true then _ else _) _ _ s
  rw [if_neg hno, pick_rev]
  first
    | exact wpAny_bind (m := Builtin.Tuple.tupleExact _) (wpAny_newObj_type (wpAny_pure ⟨_, rfl, wpAny_pure h⟩) htake)
    | exact wpAny_bind (m := Builtin.Tuple.tupleExact _) (wpAny_newObj_type (wpAny_bind (wpAny_pure (wpAny_pure ⟨_, rfl, wpAny_pure h⟩))) htake)
    | exact wpAny_bind (wpAny_bind (m := Builtin.Tuple.tupleExact _) (wpAny_newObj_type (wpAny_pure (wpAny_pure ⟨_, rfl, wpAny_pure h⟩)) htake))
    | exact wpAny_bind (wpAny_bind (m := Builtin.Tuple.tupleExact _) (wpAny_newObj_type (wpAny_pure ⟨_, rfl, wpAny_pure h⟩) htake))
end
section
variable {X : Cx}
def tRevA (K : PySem.W.Frag) (te : TE) : TE := fun σ H Q => te σ H fun x H1 => ∃ a xs, x = .ref a ∧ ((SqL K H1 a xs ∧ ∀ p, H1 p = none → Q (.ref p) (upd H1 p (.lst xs.reverse))) ∨ (SqT K H1 a xs ∧ ∀ p, H1 p = none → Q (.ref p) (upd H1 p (.tup xs.reverse))))
theorem pe_revA {e : Expr} {te : TE} {k : Nat} {p1 p2 p3 pos : Pos} (he : PE X e te) : PE X (.Subscript e (.Slice none none (some (.UnaryOp .USub (.Constant (.int 1) k p1) p2)) p3) pos) (tRevA X.K te) := by
  refine ⟨fun pins s σ H Q I h => ?_⟩
  refine Subscript_ (thn (he.run pins s σ H _ I h) fun v s1 ⟨x, H1, I1, r1, q1⟩ => ?_)
  obtain ⟨a, xs, ex, q1⟩ := q1
  subst ex
  cases r1
  have hst : PO X (some (.UnaryOp .USub (.Constant (.int 1) k p1) p2)) (tPart (tUn (rU fun i => .int (-i)) (tC (.int 1)))) := po_some (pe_un un_neg pe_int)
  refine wpAny_Slice (thn (po_none.run pins s1 σ H1 (fun o H2 => o = none ∧ H2 = H1) I1 ⟨rfl, rfl⟩) fun vl s2 ⟨l, H2, I2, pl, el, e2⟩ => ?_)
  subst el e2
  refine thn (po_none.run pins s2 σ H2 (fun o H3 => o = none ∧ H3 = H2) I2 ⟨rfl, rfl⟩) fun vu s3 ⟨u, H3, I3, pu, eu, e3⟩ => ?_
  subst eu e3
  refine thn (hst.run pins s3 σ H3 (fun o H4 => o = some (-1) ∧ H4 = H3) I3 ⟨1, rfl, -1, rfl, rfl, rfl⟩) fun vs s4 ⟨o, H4, I4, ps, eo, e4⟩ => ?_
  subst eo e4
  have I5 : Inv X pins σ H4 { s4 with heap := s4.heap.push { cls := .type "slice", data := .fields #[vl, vu, vs] } } := I4.kept (t' := s4.toks) fun b ob q => Heap.get?_push_of_some _ q
  show wpAny (model X.prog X.w) X.A (subscriptTail e (.Slice none none (some (.UnaryOp .USub (.Constant (.int 1) k p1) p2)) p3) (.ref a) (.ref s4.heap.objs.size)) (EP X pins σ Q) X.xe { s4 with heap := s4.heap.push { cls := .type "slice", data := .fields #[vl, vu, vs] } }
  rcases q1 with ⟨hx, q⟩ | ⟨hx, q⟩
  · obtain ⟨its, r, ht, hz⟩ := I5.list hx
    have hlen := r.length
    refine tail_any (ops := [.ref a, .ref s4.heap.objs.size]) ht.isList.typeIs (PySem.slot_list_getitem.lookup) ?_ (by with_unfolding_all rfl)
    refine wpAny_getItem_list_slice ht.isList (Heap.IsSliceOf.new _ vl vu vs) pl pu ps (by decide) ?_ (by rw [List.size_toArray]; omega)
    rw [PySem.W.krv_pick]
    refine ⟨.ref _, _, I5.laid (t' := s4.toks) (o := .lst xs.reverse) (fun b ob q => Heap.get?_push_of_some _ q) (Nat.le_refl _) ?_, rfl, q _ (I5.hok.fresh (Nat.le_refl _))⟩
    exact ⟨by rw [List.length_reverse]; exact hz, _, 0, r.reverse, Heap.get?_push_size _ rfl⟩
  · obtain ⟨its, r, ht, hz⟩ := I5.tuple hx
    have hlen := r.length
    refine tail_any (ops := [.ref a, .ref s4.heap.objs.size]) ht.typeIs (PyProof.Rows.slot_tuple_getitem.lookup) ?_ (by with_unfolding_all rfl)
    refine getItem_tuple_rev ht (Heap.IsSliceOf.new _ vl vu vs) pl pu ps ?_ (by rw [List.size_toArray]; omega)
    refine ⟨.ref _, _, I5.laid (t' := s4.toks) (o := .tup xs.reverse) (fun b ob q => Heap.get?_push_of_some _ q) (Nat.le_refl _) ?_, rfl, q _ (I5.hok.fresh (Nat.le_refl _))⟩
    exact ⟨by rw [List.length_reverse]; exact hz, _, r.reverse, IsTup.new _ _⟩
end
end G

set_option maxHeartbeats 2000000
/-! GSem: readings by the evaluator, their composition, the operators. -/
namespace G
open PySem PySem.Spec PyProof.Rows L2

def PR {α : Type} (r : Res α) (A : α → LH → Prop) (B : Nat → List (Nat × Val) → LH → Prop) : Prop :=
  match r with
  | .ok a h => A a h
  | .ex c fs h => B c fs h
  | .bad => False
/-- from where one stands (ι, H) the result r leads to Q, an error to W -/
def Fin {α β : Type} (K : PySem.W.Frag) (T : Tie) (R : Io → Gh → Hp → β → α → Prop) (W : WX) (σ : L2.St) (ι : Io) (G : Gh) (H : Hp) (r : Res α) (Q : β → Hp → Prop) : Prop :=
  PR r (fun x h' => ∀ ι' H' v, Ext ι H ι' H' → Rep K T ι' G H' h' → R ι' G H' v x → Q v H')
    (fun c fs h' => ∀ ι' H' cls d, Ext ι H ι' H' → Rep K T ι' G H' h' → RX K T ι' G H' cls d c fs → W cls d σ H')
/-- a reading by an evaluation -/
def tG {α β : Type} (K : PySem.W.Frag) (T : Tie) (R : Io → Gh → Hp → β → α → Prop) (W : WX) (g : Env → LH → Res α) : L2.St → Hp → (β → Hp → Prop) → Prop := fun σ H Q =>
  ∃ ι G h env, Rep K T ι G H h ∧ RE K T ι G H σ env ∧ Fin K T R W σ ι G H (g env h) Q
section
variable {K : PySem.W.Frag} {T : Tie} {W : WX} {σ : L2.St} {ι ι' : Io} {G : Gh} {H H' : Hp} {h h' : LH} {env : Env} {α β γ δ : Type} {R : Io → Gh → Hp → β → α → Prop} {R2 : Io → Gh → Hp → δ → γ → Prop}
theorem Fin.imp {r : Res α} {Q Q' : β → Hp → Prop} (F : Fin K T R W σ ι G H r Q) (h : ∀ v H, Q v H → Q' v H) : Fin K T R W σ ι G H r Q' := by
  cases r with
  | ok a h1 => exact fun ι' H' v e rp rv => h v H' (F ι' H' v e rp rv)
  | ex c fs h1 => exact F
  | bad => exact F
theorem Fin.mono {r : Res α} {Q : β → Hp → Prop} (e : Ext ι H ι' H') (F : Fin K T R W σ ι G H r Q) : Fin K T R W σ ι' G H' r Q := by
  cases r with
  | ok a h1 => exact fun ι2 H2 v e2 rp rv => F ι2 H2 v (e.trans e2) rp rv
  | ex c fs h1 => exact fun ι2 H2 cls d e2 rp rx => F ι2 H2 cls d (e.trans e2) rp rx
  | bad => exact F
theorem Fin.bind {r : Res α} {f : α → LH → Res γ} {Q : δ → Hp → Prop} (F : Fin K T R2 W σ ι G H (r.bind f) Q) :
    Fin K T R W σ ι G H r fun v H1 => ∃ ι1 h1 x, Ext ι H ι1 H1 ∧ Rep K T ι1 G H1 h1 ∧ R ι1 G H1 v x ∧ Fin K T R2 W σ ι1 G H1 (f x h1) Q := by
  cases r with
  | ok a h1 => exact fun ι' H' v e rp rv => ⟨ι', h1, a, e, rp, rv, Fin.mono e F⟩
  | ex c fs h1 => exact F
  | bad => exact F
/-- the value is there already -/
theorem Fin.ok {x : α} {v : β} {Q : β → Hp → Prop} (F : Fin K T R W σ ι G H (.ok x h) Q) (Rp : Rep K T ι G H h) (rv : R ι G H v x) : Q v H := F ι H v (Ext.refl ι H) Rp rv
theorem Fin.ofOpt {o : Option α} {Q : β → Hp → Prop} (F : Fin K T R W σ ι G H (ofOpt o h) Q) : ∃ x, o = some x ∧ Fin K T R W σ ι G H (.ok x h) Q := by
  cases o with
  | some x => exact ⟨x, rfl, F⟩
  | none => exact F.elim
end
/-- an expression, a test, arguments, a part of a slice -/
abbrev tE (K : PySem.W.Frag) (T : Tie) (W : WX) (g : Env → LH → Res Val) : TE := tG K T (RV K) W g
abbrev tA (K : PySem.W.Frag) (T : Tie) (W : WX) (g : Env → LH → Res (List Val)) : TA := tG K T (RVs K) W g
def RId {α : Type} : Io → Gh → Hp → α → α → Prop := fun _ _ _ a b => a = b
abbrev tT (K : PySem.W.Frag) (T : Tie) (W : WX) (g : Env → LH → Res Bool) : TT := tG K T RId W g
abbrev tO (K : PySem.W.Frag) (T : Tie) (W : WX) (g : Env → LH → Res (Option Int)) : TO := tG K T RId W g
section
variable {X : Cx} {e : Expr}
theorem PE.imp {t t' : TE} (p : PE X e t) (h : ∀ σ H Q, t' σ H Q → t σ H Q) : PE X e t' := ⟨fun pins s σ H Q I q => p.run pins s σ H Q I (h σ H Q q)⟩
theorem PT.imp {t t' : TT} (p : PT X e t) (h : ∀ σ H Q, t' σ H Q → t σ H Q) : PT X e t' := ⟨fun pins s σ H Q I q => p.run pins s σ H Q I (h σ H Q q)⟩
theorem PW.imp {t t' : TT} (p : PW X e t) (h : ∀ σ H Q, t' σ H Q → t σ H Q) : PW X e t' := ⟨fun w pins s σ H Q I q => p.run w pins s σ H Q I (h σ H Q q)⟩
theorem PA.imp {es : List Expr} {t t' : TA} (p : PA X es t) (h : ∀ σ H Q, t' σ H Q → t σ H Q) : PA X es t' := ⟨fun pos pins s σ H Q I q => p.run pos pins s σ H Q I (h σ H Q q)⟩
theorem PO.imp {o : Option Expr} {t t' : TO} (p : PO X o t) (h : ∀ σ H Q, t' σ H Q → t σ H Q) : PO X o t' := ⟨fun pins s σ H Q I q => p.run pins s σ H Q I (h σ H Q q)⟩
end

section
variable {K : PySem.W.Frag} {T : Tie} {W : WX} {ga gb : Env → LH → Res Val}
/-- two parts in a row, then a rule by values -/
theorem go2 {γ δ : Type} {Rz : Io → Gh → Hp → δ → γ → Prop} {r : V → V → Hp → (δ → Hp → Prop) → Prop} {f : Val → Val → LH → Res γ}
    (hr : ∀ σ ι G H h x y v w Q, Rep K T ι G H h → RV K ι G H v x → RV K ι G H w y → Fin K T Rz W σ ι G H (f x y h) Q → r v w H Q) :
    ∀ σ H Q, tG K T Rz W (fun env h => (ga env h).bind fun x h1 => (gb env h1).bind fun y h2 => f x y h2) σ H Q → tE K T W ga σ H fun v H1 => tE K T W gb σ H1 fun w H2 => r v w H2 Q := by
  rintro σ H Q ⟨ι, G, h, env, R, E, F⟩
  refine ⟨ι, G, h, env, R, E, (Fin.bind (R := RV K) F).imp ?_⟩
  rintro v H1 ⟨ι1, h1, x, e1, R1, rv, F1⟩
  refine ⟨ι1, G, h1, env, R1, E.mono e1, (Fin.bind (R := RV K) F1).imp ?_⟩
  rintro w H2 ⟨ι2, h2, y, e2, R2, rw, F2⟩
  exact hr σ ι2 G H2 h2 x y v w Q R2 (rv.mono e2) rw F2
theorem go1 {γ δ : Type} {Rz : Io → Gh → Hp → δ → γ → Prop} {r : V → Hp → (δ → Hp → Prop) → Prop} {f : Val → LH → Res γ}
    (hr : ∀ σ ι G H h x v Q, Rep K T ι G H h → RV K ι G H v x → Fin K T Rz W σ ι G H (f x h) Q → r v H Q) :
    ∀ σ H Q, tG K T Rz W (fun env h => (ga env h).bind fun x h1 => f x h1) σ H Q → tE K T W ga σ H fun v H1 => r v H1 Q := by
  rintro σ H Q ⟨ι, G, h, env, R, E, F⟩
  refine ⟨ι, G, h, env, R, E, (Fin.bind (R := RV K) F).imp ?_⟩
  rintro v H1 ⟨ι1, h1, x, e1, R1, rv, F1⟩
  exact hr σ ι1 G H1 h1 x v Q R1 rv F1

/-! ### operators -/
/-- the rule of an operator by values -/
def rOp2 (K : PySem.W.Frag) : Op2 → L2.R2
  | .add => fun x y H Q => (rI0 (fun i j => .int (i + j))) x y H Q ∨ (∃ i j, x = .str i ∧ y = .str j ∧ i.length + j.length ≤ sizeLine ∧ Q (.str (i ++ j)) H) ∨ rCatA K x y H Q ∨ rCat x y H Q
  | .sub => rI0 fun i j => .int (i - j)
  | .mul => fun x y H Q => rI CMul (fun i j => .int (i * j)) x y H Q ∨ rRep x y H Q
  | .fdiv => rI CDiv fun i j => .int (i / j)
  | .mod => rI (fun _ j => 0 < j) fun i j => .int (i % j)
  | .pow => rI CPow fun i j => .int (i ^ j.toNat)
def opOf : Op2 → Operator
  | .add => .Add | .sub => .Sub | .mul => .Mult | .fdiv => .FloorDiv | .mod => .Mod | .pow => .Pow
theorem op2_ok {X : Cx} : ∀ o, OpR X (binaryOp (opOf o)) (rOp2 X.K o)
  | .add => OpR.or op_add (OpR.or op_add_str (OpR.or op_catA op_cat))
  | .sub => op_sub
  | .mul => OpR.or op_mul op_rep
  | .fdiv => op_fdiv
  | .mod => op_mod
  | .pow => op_pow
theorem lst_ok {ι : Io} {G : Gh} {H : Hp} {h : LH} {x : Val} {xs : List Val} {v : V} (R : Rep K T ι G H h) (e : lstOf h x = some xs) (r : RV K ι G H v x) :
    ∃ p vs, v = .ref p ∧ H p = some (.lst vs) ∧ RVs K ι G H vs xs := by
  cases r with
  | lst ha _ rs => cases e; exact ⟨_, _, rfl, ha, rs⟩
  | ref hi =>
    simp only [lstOf] at e
    split at e
    · rename_i ys ho
      cases e
      cases R.obj hi ho with
      | lst hp rs => exact ⟨_, _, rfl, hp, rs⟩
    · cases e
  | _ => cases e
/-- a new list that stays -/
theorem Fin.lst {σ : L2.St} {ι : Io} {G : Gh} {H : Hp} {h : LH} {xs : List Val} {vs : List V} {Q : VK} (R : Rep K T ι G H h) (F : Fin K T (RV K) W σ ι G H (.ok (.lst xs) h) Q) (r : RVs K ι G H vs xs) :
    ∀ p, H p = none → Q (.ref p) (upd H p (.lst vs)) := fun p hp => F ι _ _ (R.lay hp) (R.laid hp) (.lst upd_same (R.av hp) (r.mono (R.lay hp)))
theorem Fin.tup {σ : L2.St} {ι : Io} {G : Gh} {H : Hp} {h : LH} {xs : List Val} {vs : List V} {Q : VK} (R : Rep K T ι G H h) (F : Fin K T (RV K) W σ ι G H (.ok (.tup xs) h) Q) (r : RVs K ι G H vs xs) :
    ∀ p, H p = none → Q (.ref p) (upd H p (.tup vs)) := fun p hp => F ι _ _ (R.lay hp) (R.laid hp) (.tup (.inl ⟨.inl upd_same, R.av hp⟩) (r.mono (R.lay hp)))
theorem cat_ok {ι : Io} {G : Gh} {H : Hp} {h : LH} {x y : Val} {zs : List Val} {v w : V} (R : Rep K T ι G H h) (e : catL h x y = some zs) (rv : RV K ι G H v x) (rw : RV K ι G H w y) :
    ∃ p q vs ws, v = .ref p ∧ w = .ref q ∧ H p = some (.lst vs) ∧ H q = some (.lst ws) ∧ vs.length + ws.length ≤ sizeLine ∧ RVs K ι G H (vs ++ ws) zs := by
  unfold catL at e
  split at e
  · rename_i xs ys hx hy
    obtain ⟨p, vs, rfl, hp, r1⟩ := lst_ok R hx rv
    obtain ⟨q, ws, rfl, hq, r2⟩ := lst_ok R hy rw
    split at e
    · rename_i hc
      cases e
      exact ⟨p, q, vs, ws, rfl, rfl, hp, hq, by rw [r1.length, r2.length]; exact hc, r1.append r2⟩
    · cases e
  · cases e
theorem rep_ok {ι : Io} {G : Gh} {H : Hp} {h : LH} {x : Val} {k : Int} {zs : List Val} {v : V} (R : Rep K T ι G H h) (e : repL h x k = some zs) (rv : RV K ι G H v x) :
    ∃ p vs, v = .ref p ∧ H p = some (.lst vs) ∧ -(2 ^ 63) ≤ k ∧ k < 2 ^ 63 ∧ vs.length * k.toNat ≤ sizeLine ∧ RVs K ι G H (List.replicate k.toNat vs).flatten zs := by
  unfold repL at e
  split at e
  · rename_i xs hx
    obtain ⟨p, vs, rfl, hp, r1⟩ := lst_ok R hx rv
    split at e
    · rename_i hc
      cases e
      exact ⟨p, vs, rfl, hp, hc.1, hc.2.1, by rw [r1.length]; exact hc.2.2, r1.rep _⟩
    · cases e
  · cases e
theorem op2_val (o : Op2) {σ : L2.St} {ι : Io} {G : Gh} {H : Hp} {h : LH} {x y : Val} {v w : V} {Q : VK} (R : Rep K T ι G H h) (rv : RV K ι G H v x) (rw : RV K ι G H w y)
    (F : Fin K T (RV K) W σ ι G H (ofOpt (opV h o x y) h) Q) : rOp2 K o v w H Q := by
  obtain ⟨z, hz, F⟩ := F.ofOpt
  cases o with
  | add =>
    simp only [opV] at hz
    split at hz
    · cases hz; cases rv; cases rw; exact .inl ⟨_, _, rfl, rfl, F.ok R (.int _)⟩
    · split at hz
      · rename_i hc; cases hz; cases rv; cases rw; exact .inr (.inl ⟨_, _, rfl, rfl, hc, F.ok R (.str _)⟩)
      · cases hz
    · split at hz
      · rename_i hc
        cases hz
        cases rv with
        | tup ha ra =>
          rename_i p vs
          cases rw with
          | tup hb rb =>
            rename_i q ws
            refine .inr (.inr (.inl ⟨p, q, vs, ws, rfl, rfl, ha.sq, hb.sq, by rw [ra.length, rb.length]; exact hc, ?_, ?_, ?_⟩))
            · rintro rfl
              cases ra
              exact F.ok R (.tup hb rb)
            · rintro - rfl
              cases rb
              exact F.ok R (.tup ha (by rw [List.append_nil]; exact ra))
            · intro _ _
              exact F.tup R (ra.append rb)
      · cases hz
    · obtain ⟨zs, e, rfl⟩ := Option.map_eq_some_iff.mp hz
      obtain ⟨p, q, vs, ws, rfl, rfl, h1, h2, h3, h4⟩ := cat_ok R e rv rw
      exact .inr (.inr (.inr ⟨p, q, vs, ws, rfl, rfl, h1, h2, h3, F.lst R h4⟩))
  | sub =>
    simp only [opV] at hz
    split at hz
    · cases hz; cases rv; cases rw; exact ⟨_, _, rfl, rfl, F.ok R (.int _)⟩
    · cases hz
  | mul =>
    simp only [opV] at hz
    split at hz
    · split at hz
      · rename_i hc; cases hz; cases rv; cases rw; exact .inl ⟨_, _, rfl, rfl, hc, F.ok R (.int _)⟩
      · cases hz
    · obtain ⟨zs, e, rfl⟩ := Option.map_eq_some_iff.mp hz
      obtain ⟨p, vs, rfl, h1, h2, h3, h4, h5⟩ := rep_ok R e rv
      cases rw
      exact .inr ⟨p, _, vs, rfl, rfl, h1, h2, h3, h4, F.lst R h5⟩
    · cases hz
  | fdiv =>
    simp only [opV] at hz
    split at hz
    · split at hz
      · rename_i hc; cases hz; cases rv; cases rw; exact ⟨_, _, rfl, rfl, hc, F.ok R (.int _)⟩
      · cases hz
    · cases hz
  | mod =>
    simp only [opV] at hz
    split at hz
    · split at hz
      · rename_i hc; cases hz; cases rv; cases rw; exact ⟨_, _, rfl, rfl, hc, F.ok R (.int _)⟩
      · cases hz
    · cases hz
  | pow =>
    simp only [opV] at hz
    split at hz
    · split at hz
      · rename_i hc; cases hz; cases rv; cases rw; exact ⟨_, _, rfl, rfl, hc, F.ok R (.int _)⟩
      · cases hz
    · cases hz

/-! ### data -/
mutual
theorem dp_of {ι : Io} {G : Gh} {H : Hp} : ∀ {x : Val} {d : PyData} {v : V}, toPyV x = some d → RV K ι G H v x → Dp K H v d
  | .non, _, _, e, .non => by cases e; exact .non
  | .bl b, _, _, e, .bl _ => by cases e; exact .bl b
  | .int i, _, _, e, .int _ => by cases e; exact .int i
  | .str z, _, _, e, .str _ => by cases e; exact .str z
  | .tup xs, d, _, e, .tup ha r => by
    simp only [toPyV, Option.map_eq_some_iff] at e
    obtain ⟨ds, e1, rfl⟩ := e
    exact .tup ha.sq (dps_of e1 r)
  | .lst xs, d, _, e, .lst ha _ r => by
    simp only [toPyV, Option.map_eq_some_iff] at e
    obtain ⟨ds, e1, rfl⟩ := e
    exact .lst (SqL.of ha) (dps_of e1 r)
  | .rol xs, d, _, e, .rol ha r => by
    simp only [toPyV, Option.map_eq_some_iff] at e
    obtain ⟨ds, e1, rfl⟩ := e
    exact .lst ha.sq (dps_of e1 r)
  | .ref _, _, _, e, _ => by cases e
theorem dps_of {ι : Io} {G : Gh} {H : Hp} : ∀ {xs : List Val} {ds : List PyData} {vs : List V}, toPyL xs = some ds → RVs K ι G H vs xs → DpAll K H vs ds
  | [], _, _, e, .nil => by cases e; exact .nil
  | x :: xs, ds, _, e, .cons r rs => by
    simp only [toPyL, Option.bind_eq_some_iff, Option.map_eq_some_iff] at e
    obtain ⟨d, e1, ds', e2, rfl⟩ := e
    exact .cons (dp_of e1 r) (dps_of e2 rs)
end
theorem pyOf_ok {ι : Io} {G : Gh} {H : Hp} {h : LH} {x : Val} {d : PyData} {v : V} (R : Rep K T ι G H h) (e : pyOf h x = some d) (r : RV K ι G H v x) : Dp K H v d := by
  cases r with
  | ref hi =>
    simp only [pyOf] at e
    split at e
    · rename_i xs ho
      obtain ⟨ds, e1, rfl⟩ := Option.map_eq_some_iff.mp e
      cases R.obj hi ho with
      | lst hp rs => exact .lst (SqL.of hp) (dps_of e1 rs)
    · cases e
  | non => exact dp_of (ι := ι) (G := G) e .non
  | bl b => exact dp_of (ι := ι) (G := G) e (.bl b)
  | int i => exact dp_of (ι := ι) (G := G) e (.int i)
  | str z => exact dp_of (ι := ι) (G := G) e (.str z)
  | tup a b => exact dp_of e (.tup a b)
  | lst a b c => exact dp_of e (.lst a b c)
  | rol a b => exact dp_of e (.rol a b)
theorem sc_ok {ι : Io} {G : Gh} {H : Hp} {x y : Val} {v w : V} {b : Bool} (e : scEq x y = some b) (rv : RV K ι G H v x) (rw : RV K ι G H w y) : scal v w = true ∧ decide (v = w) = b := by
  cases rv <;> cases rw <;> first
    | (cases e; done)
    | (simp only [scEq, Option.some.injEq] at e; subst e; exact ⟨rfl, by simp⟩)
theorem eq_ok {ι : Io} {G : Gh} {H : Hp} {h : LH} {x y : Val} {v w : V} {b : Bool} (R : Rep K T ι G H h) (e : eqVal h x y = some b) (rv : RV K ι G H v x) (rw : RV K ι G H w y) :
    (scal v w = true ∧ decide (v = w) = b) ∨ ∃ d e, Dp K H v d ∧ Dp K H w e ∧ SeqAt.shaped d = true ∧ SeqAt.shaped e = true ∧ PyData.eqv d e = b := by
  unfold eqVal at e
  split at e
  · rename_i b' hb
    cases e
    exact .inl (sc_ok hb rv rw)
  · split at e
    · rename_i d1 d2 h1 h2
      split at e
      · rename_i hs
        rw [Bool.and_eq_true] at hs
        exact .inr ⟨d1, d2, pyOf_ok R h1 rv, pyOf_ok R h2 rw, hs.1, hs.2, by simpa using e⟩
      · cases e
    · cases e
theorem flat_ok {ι : Io} {G : Gh} {H : Hp} {x : Val} {v : V} (e : flat x = true) (r : RV K ι G H v x) : flatV v = true := by
  cases r <;> first | rfl | cases e
theorem flats_ok {ι : Io} {G : Gh} {H : Hp} : ∀ {xs : List Val} {vs : List V}, xs.all flat = true → RVs K ι G H vs xs → vs.all flatV = true
  | _, _, _, .nil => rfl
  | _, _, e, .cons r rs => by
    simp only [List.all_cons, Bool.and_eq_true] at e ⊢
    exact ⟨flat_ok e.1 r, flats_ok e.2 rs⟩
theorem flatEq_ok {ι : Io} {G : Gh} {H : Hp} {x y : Val} {v w : V} (ex : flat x = true) (ey : flat y = true) (rv : RV K ι G H v x) (rw : RV K ι G H w y) : eqV v w = flatEq x y := by
  cases rv <;> cases rw <;> first | rfl | cases ex | cases ey
theorem anyEq_ok {ι : Io} {G : Gh} {H : Hp} {x : Val} {v : V} (ex : flat x = true) (rv : RV K ι G H v x) : ∀ {xs : List Val} {vs : List V}, xs.all flat = true → RVs K ι G H vs xs → inV v vs = xs.any fun y => flatEq y x
  | _, _, _, .nil => rfl
  | _, _, e, .cons r rs => by
    simp only [List.all_cons, Bool.and_eq_true] at e
    have ih := anyEq_ok ex rv e.2 rs
    unfold inV at ih ⊢
    rw [List.any_cons, List.any_cons, ih, flatEq_ok e.1 ex r rv]
/-- a list or tuple's items -/
theorem seq_ok {ι : Io} {G : Gh} {H : Hp} {h : LH} {x : Val} {xs : List Val} {v : V} (R : Rep K T ι G H h) (e : seqOf h x = some xs) (r : RV K ι G H v x) :
    ∃ p vs, v = .ref p ∧ RVs K ι G H vs xs ∧ ((SqL K H p vs ∧ isTup x = false) ∨ (TupAt K ι G H p vs ∧ isTup x = true)) := by
  cases r with
  | tup ha rs => cases e; exact ⟨_, _, rfl, rs, .inr ⟨ha, rfl⟩⟩
  | lst ha _ rs => cases e; exact ⟨_, _, rfl, rs, .inl ⟨SqL.of ha, rfl⟩⟩
  | rol ha rs => cases e; exact ⟨_, _, rfl, rs, .inl ⟨ha.sq, rfl⟩⟩
  | ref hi =>
    simp only [seqOf] at e
    split at e
    · rename_i ys ho
      cases e
      cases R.obj hi ho with
      | lst hp rs => exact ⟨_, _, rfl, rs, .inl ⟨SqL.of hp, rfl⟩⟩
    · cases e
  | _ => cases e
theorem key_ok {ι : Io} {G : Gh} {H : Hp} {x : Val} {k : Key} {v : V} (e : keyOf x = some k) (r : RV K ι G H v x) : v = kV k := by
  cases r <;> first | (cases e; rfl) | cases e
theorem dget_kv {κ : Type} [DecidableEq κ] {ι : Io} {G : Gh} {H : Hp} {k : κ} : ∀ {kvs : List (κ × Val)} {gs : List (κ × V)}, RKV K ι G H gs kvs →
    (∀ x, dget kvs k = some x → ∃ v, valV gs k = some v ∧ RV K ι G H v x) ∧ (dget kvs k = none → valV gs k = none)
  | _, _, .nil => by
    constructor
    · intro _ e; cases e
    · intro _; rfl
  | _, _, .cons (k := k') (v := v) (x := x) (gs := gs) (fs := fs) r rs => by
    have ih := dget_kv (k := k) rs
    by_cases z : k' = k
    · constructor
      · intro y e
        simp [dget, z] at e
        subst e
        exact ⟨v, by simp [valV, z], r⟩
      · intro e
        simp [dget, z] at e
    · constructor
      · intro y e
        have e2 : dget fs k = some y := by
          unfold dget at e ⊢
          rw [List.find?_cons, decide_eq_false z] at e
          exact e
        obtain ⟨w, h1, h2⟩ := ih.1 y e2
        refine ⟨w, ?_, h2⟩
        unfold valV at h1 ⊢
        rw [List.find?_cons, decide_eq_false z]
        exact h1
      · intro e
        have e2 : dget fs k = none := by
          unfold dget at e ⊢
          rw [List.find?_cons, decide_eq_false z] at e
          exact e
        have h1 := ih.2 e2
        unfold valV at h1 ⊢
        rw [List.find?_cons, decide_eq_false z]
        exact h1
theorem dgetS_kv {κ : Type} [DecidableEq κ] {ι : Io} {G : Gh} {H : Hp} {k : κ} {kvs : List (κ × Val)} {gs : List (κ × V)} (r : RKV K ι G H gs kvs) : (valV gs k).isSome = (dget kvs k).isSome := by
  cases e : dget kvs k with
  | none => rw [(dget_kv r).2 e]; rfl
  | some x => obtain ⟨v, h, _⟩ := (dget_kv r).1 x e; rw [h]; rfl
theorem dk_ok {ι : Io} {G : Gh} {H : Hp} {h : LH} {a : Nat} {v : V} {kvs : List (Key × Val)} (R : Rep K T ι G H h) (r : RV K ι G H v (.ref a)) (e : h[a]? = some (.dk kvs)) :
    ∃ p gs, v = .ref p ∧ ι a = some p ∧ H p = some (.dK gs) ∧ RKV K ι G H gs kvs := by
  cases r with
  | ref hi =>
    cases R.obj hi e with
    | dk hp rs => exact ⟨_, _, rfl, hi, hp, rs⟩

/-! ### comparisons -/
def rCm (K : PySem.W.Frag) : Cm → L2.R2
  | .eq => fun x y H Q => rEq x y H Q ∨ rEqD K x y H Q
  | .ne => fun x y H Q => rNe x y H Q ∨ rNeD K x y H Q
  | .lt => rI0 fun i j => .bl (decide (i < j))
  | .le => rI0 fun i j => .bl (decide (i ≤ j))
  | .gt => rI0 fun i j => .bl (decide (j < i))
  | .ge => rI0 fun i j => .bl (decide (j ≤ i))
  | .is => fun x y H Q => y = .non ∧ Q (.bl (decide (x = .non))) H
  | .isnt => fun x y H Q => y = .non ∧ Q (.bl (!decide (x = .non))) H
  | .inn => fun x y H Q => (∃ (c : Nat) (z : Str), x = .str ⟨#[c]⟩ ∧ y = .str z ∧ Q (.bl (decide (c ∈ z.cps.toList))) H) ∨ rIn K false x y H Q ∨ rInD K x y H Q ∨ ∃ a ov, y = .ref a ∧ DGet H a x ov ∧ Q (.bl ov.isSome) H
  | .nin => fun x y H Q => (∃ (c : Nat) (z : Str), x = .str ⟨#[c]⟩ ∧ y = .str z ∧ Q (.bl (!decide (c ∈ z.cps.toList))) H) ∨ rIn K true x y H Q ∨ rNotInD K x y H Q ∨ ∃ a ov, y = .ref a ∧ DGet H a x ov ∧ Q (.bl (!ov.isSome)) H
def cmOf : Cm → CmpOp
  | .eq => .Eq | .ne => .NotEq | .lt => .Lt | .le => .LtE | .gt => .Gt | .ge => .GtE | .is => .Is | .isnt => .IsNot | .inn => .In | .nin => .NotIn
theorem op_dIn {X : Cx} (hu : X.A.units + 1 < cLine) : OpR X (compareOp .In) (fun x y H Q => ∃ a ov, y = .ref a ∧ DGet H a x ov ∧ Q (.bl ov.isSome) H) := by
  intro pins s σ H x y v u Q I rx ry h
  obtain ⟨a, ov, rfl, g, q⟩ := h
  obtain rfl : u = Value.ref a := ry
  exact d_in hu I g rx fun s3 I3 => ⟨.bl ov.isSome, H, I3, rfl, q⟩
theorem op_dNotIn {X : Cx} (hu : X.A.units + 1 < cLine) : OpR X (compareOp .NotIn) (fun x y H Q => ∃ a ov, y = .ref a ∧ DGet H a x ov ∧ Q (.bl (!ov.isSome)) H) := by
  intro pins s σ H x y v u Q I rx ry h
  obtain ⟨a, ov, rfl, g, q⟩ := h
  obtain rfl : u = Value.ref a := ry
  exact d_notIn hu I g rx fun s3 I3 => ⟨.bl (!ov.isSome), H, I3, rfl, q⟩
theorem cm_ok {X : Cx} (hu : X.A.units + 65 < cLine) : ∀ o, OpR X (compareOp (cmOf o)) (rCm X.K o)
  | .eq => OpR.or op_eq (op_eqD (by omega))
  | .ne => OpR.or op_ne (op_neD (by omega))
  | .lt => op_lt
  | .le => op_le
  | .gt => op_gt
  | .ge => op_ge
  | .is => op_isN
  | .isnt => op_notN
  | .inn => OpR.or op_in_sign (OpR.or op_in_seq (OpR.or (op_inD hu) (op_dIn (by omega))))
  | .nin => OpR.or op_notIn_sign (OpR.or op_notIn_seq (OpR.or (op_notInD hu) (op_dNotIn (by omega))))
theorem is_non {ι : Io} {G : Gh} {H : Hp} {x : Val} {v : V} (r : RV K ι G H v x) : decide (v = V.non) = isNon x := by
  cases r <;> simp [isNon]
/-- x in y: one of the four ways, with the answer b -/
theorem in_ok {ι : Io} {G : Gh} {H : Hp} {h : LH} {x y : Val} {v w : V} {b : Bool} (R : Rep K T ι G H h) (e : inVal h x y = some b) (rv : RV K ι G H v x) (rw : RV K ι G H w y) :
    (∃ (c : Nat) (z : Str), v = .str ⟨#[c]⟩ ∧ w = .str z ∧ decide (c ∈ z.cps.toList) = b) ∨
    (∃ p xs, w = .ref p ∧ (SqL K H p xs ∨ SqT K H p xs) ∧ flatV v = true ∧ xs.all flatV = true ∧ inV v xs = b) ∨
    (∃ d ds, Dp K H v d ∧ Dp K H w (.list ds) ∧ SeqAt.shaped d = true ∧ SeqAt.shaped (.list ds) = true ∧ (ds.any fun z => PyData.eqv z d) = b) ∨
    ∃ a ov, w = .ref a ∧ DGet H a v ov ∧ ov.isSome = b := by
  have seq : ∀ ys, seqOf h y = some ys → (if (flat x && ys.all flat) = true then some (ys.any fun y => flatEq y x) else
        match isTup y, toPyV x, toPyL ys with
        | false, some d, some ds => if (SeqAt.shaped d && SeqAt.shaped (.list ds)) = true then some (ds.any fun z => PyData.eqv z d) else none
        | _, _, _ => none) = some b → (∃ p xs, w = .ref p ∧ (SqL K H p xs ∨ SqT K H p xs) ∧ flatV v = true ∧ xs.all flatV = true ∧ inV v xs = b) ∨
    (∃ d ds, Dp K H v d ∧ Dp K H w (.list ds) ∧ SeqAt.shaped d = true ∧ SeqAt.shaped (.list ds) = true ∧ (ds.any fun z => PyData.eqv z d) = b) := by
    intro ys hy e
    obtain ⟨p, vs, rfl, rs, hs⟩ := seq_ok R hy rw
    split at e
    · rename_i hf
      rw [Bool.and_eq_true] at hf
      cases e
      refine .inl ⟨p, vs, rfl, ?_, flat_ok hf.1 rv, flats_ok hf.2 rs, anyEq_ok hf.1 rv hf.2 rs⟩
      rcases hs with ⟨hs, _⟩ | ⟨hs, _⟩
      · exact .inl hs
      · exact .inr hs.sq
    · split at e
      · rename_i d ds ht hd hds
        split at e
        · rename_i hsh
          rw [Bool.and_eq_true] at hsh
          cases e
          refine .inr ⟨d, ds, dp_of hd rv, ?_, hsh.1, hsh.2, rfl⟩
          rcases hs with ⟨hs, _⟩ | ⟨_, hs⟩
          · exact .lst hs (dps_of hds rs)
          · rw [hs] at ht; cases ht
        · cases e
      · cases e
  cases rw with
  | str z =>
    simp only [inVal] at e
    split at e
    · rename_i s
      split at e
      · rename_i c hc
        cases e
        cases rv
        refine .inl ⟨c, z, ?_, rfl, rfl⟩
        obtain ⟨a⟩ := s
        have : a = #[c] := by
          have := congrArg List.toArray hc
          simpa using this
        rw [this]
      · cases e
    · cases e
  | ref hi =>
    rename_i p a
    simp only [inVal] at e
    split at e
    · rename_i kvs ho
      obtain ⟨k, hk, rfl⟩ := Option.map_eq_some_iff.mp e
      obtain ⟨q, gs, e1, e2, e3, e4⟩ := dk_ok R (.ref hi) ho
      cases e1
      have ev := key_ok hk rv
      subst ev
      exact .inr (.inr (.inr ⟨_, _, rfl, DGet.k e3, dgetS_kv e4⟩))
    · rename_i ys ho
      rcases seq ys (by simp only [seqOf, ho]) (by
        rw [← e]
        split
        · rfl
        · simp only [isTup]
          cases toPyV x <;> cases toPyL ys <;> rfl) with z | z
      · exact .inr (.inl z)
      · exact .inr (.inr (.inl z))
    · cases e
  | tup ha rs =>
    rcases seq _ rfl e with z | z
    · exact .inr (.inl z)
    · exact .inr (.inr (.inl z))
  | lst ha hn rs =>
    rcases seq _ rfl e with z | z
    · exact .inr (.inl z)
    · exact .inr (.inr (.inl z))
  | rol ha rs =>
    rcases seq _ rfl e with z | z
    · exact .inr (.inl z)
    · exact .inr (.inr (.inl z))
  | non => cases e
  | bl b => cases e
  | int i => cases e
theorem cm_val (o : Cm) {σ : L2.St} {ι : Io} {G : Gh} {H : Hp} {h : LH} {x y : Val} {v w : V} {Q : VK} (R : Rep K T ι G H h) (rv : RV K ι G H v x) (rw : RV K ι G H w y)
    (F : Fin K T (RV K) W σ ι G H (ofOpt ((cmpV h o x y).map .bl) h) Q) : rCm K o v w H Q := by
  obtain ⟨z, hz, F⟩ := F.ofOpt
  obtain ⟨b, hb, rfl⟩ := Option.map_eq_some_iff.mp hz
  have q : Q (.bl b) H := F.ok R (.bl b)
  cases o with
  | eq =>
    rcases eq_ok R hb rv rw with ⟨h1, h2⟩ | ⟨d, e, h1, h2, h3, h4, h5⟩
    · exact .inl ⟨h1, by rw [h2]; exact q⟩
    · exact .inr ⟨d, e, h1, h2, h3, h4, by rw [h5]; exact q⟩
  | ne =>
    obtain ⟨b', hb', rfl⟩ := Option.map_eq_some_iff.mp hb
    rcases eq_ok R hb' rv rw with ⟨h1, h2⟩ | ⟨d, e, h1, h2, h3, h4, h5⟩
    · exact .inl ⟨h1, by rw [h2]; exact q⟩
    · exact .inr ⟨d, e, h1, h2, h3, h4, by rw [h5]; exact q⟩
  | inn =>
    rcases in_ok R hb rv rw with ⟨c, z, h1, h2, h3⟩ | ⟨p, xs, h1, h2, h3, h4, h5⟩ | ⟨d, ds, h1, h2, h3, h4, h5⟩ | ⟨a, ov, h1, h2, h3⟩
    · exact .inl ⟨c, z, h1, h2, by rw [h3]; exact q⟩
    · exact .inr (.inl ⟨p, xs, h1, h2, h3, h4, by rw [h5]; exact q⟩)
    · exact .inr (.inr (.inl ⟨d, ds, h1, h2, h3, h4, by rw [h5]; exact q⟩))
    · exact .inr (.inr (.inr ⟨a, ov, h1, h2, by rw [h3]; exact q⟩))
  | nin =>
    obtain ⟨b', hb', rfl⟩ := Option.map_eq_some_iff.mp hb
    rcases in_ok R hb' rv rw with ⟨c, z, h1, h2, h3⟩ | ⟨p, xs, h1, h2, h3, h4, h5⟩ | ⟨d, ds, h1, h2, h3, h4, h5⟩ | ⟨a, ov, h1, h2, h3⟩
    · exact .inl ⟨c, z, h1, h2, by rw [h3]; exact q⟩
    · exact .inr (.inl ⟨p, xs, h1, h2, h3, h4, by rw [h5]; exact q⟩)
    · exact .inr (.inr (.inl ⟨d, ds, h1, h2, h3, h4, by rw [h5]; exact q⟩))
    · exact .inr (.inr (.inr ⟨a, ov, h1, h2, by rw [h3]; exact q⟩))
  | is =>
    simp only [cmpV] at hb
    split at hb
    · cases hb
      cases rw
      exact ⟨rfl, by rw [is_non rv]; exact q⟩
    · cases hb
  | isnt =>
    simp only [cmpV] at hb
    split at hb
    · cases hb
      cases rw
      exact ⟨rfl, by rw [is_non rv]; exact q⟩
    · cases hb
  | _ =>
    simp only [cmpV] at hb
    cases rv <;> cases rw <;> first
      | (cases hb; done)
      | (simp only [Option.some.injEq] at hb; subst hb; exact ⟨_, _, rfl, rfl, q⟩)
end
end G

set_option maxHeartbeats 4000000
/-! GSem2: subscripts, slices, isinstance, built-ins by values. -/
namespace G
open PySem PySem.Spec PyProof.Rows L2
section
variable {K : PySem.W.Frag} {T : Tie} {W : WX} {σ : L2.St} {ι : Io} {G : Gh} {H : Hp} {h : LH}

/-! ### x[i] -/
theorem atI_rel {xs : List Val} {vs : List V} {i : Int} {x : Val} (r : RVs K ι G H vs xs) (e : atI xs i = some x) : ∃ v, atI vs i = some v ∧ RV K ι G H v x := by
  unfold atI at e ⊢
  rw [r.length]
  cases hj : ixN xs.length i with
  | none => rw [hj] at e; cases e
  | some j =>
    rw [hj] at e
    exact r.get e
def rIxA (K : PySem.W.Frag) : L2.R2 := fun x y H Q => rIxL K x y H Q ∨ rIxT K x y H Q ∨ rIxS x y H Q ∨ ∃ a v, x = .ref a ∧ DGet H a y (some v) ∧ Q v H
theorem ix_dict {X : Cx} (hu : X.A.units + 1 < cLine) : IxR X (fun x y H Q => ∃ a v, x = .ref a ∧ DGet H a y (some v) ∧ Q v H) := by
  intro value slice pins s σ H x y v u Q I rx ry h hs
  obtain ⟨a, z, rfl, g, q⟩ := h
  obtain rfl : v = Value.ref a := rx
  exact tail_any (dict_typeIs I g) PySem.F.slot_dict_getitem.lookup (d_getItem hu I g ry fun w' s3 I3 rw' => ⟨z, H, I3, rw', q⟩) hs
theorem ixA_ok {X : Cx} (hu : X.A.units + 1 < cLine) : IxR X (rIxA X.K) := IxR.or ix_list (IxR.or ix_tup (IxR.or ix_str (ix_dict hu)))
theorem ix_val {x y : Val} {v w : V} {Q : VK} (R : Rep K T ι G H h) (rv : RV K ι G H v x) (rw : RV K ι G H w y)
    (F : Fin K T (RV K) W σ ι G H (ofOpt (ixVal h x y) h) Q) : rIxA K v w H Q := by
  obtain ⟨z, hz, F2⟩ := F.ofOpt
  clear F
  have seq : ∀ xs i, y = .int i → seqOf h x = some xs → atI xs i = some z → rIxA K v w H Q := by
    intro xs i ey hs ha
    subst ey
    cases rw
    obtain ⟨p, vs, rfl, rs, hq⟩ := seq_ok R hs rv
    obtain ⟨u, hu, ru⟩ := atI_rel rs ha
    rcases hq with ⟨hq, _⟩ | ⟨hq, _⟩
    · exact .inl ⟨p, vs, i, u, rfl, rfl, hq, hu, F2.ok R ru⟩
    · exact .inr (.inl ⟨p, vs, i, u, rfl, rfl, hq.sq, hu, F2.ok R ru⟩)
  cases x with
  | str s =>
    simp only [ixVal] at hz
    split at hz
    · rename_i i
      split at hz
      · rename_i hl
        obtain ⟨c, hc, rfl⟩ := Option.map_eq_some_iff.mp hz
        cases rv
        cases rw
        exact .inr (.inr (.inl ⟨s, i, c, rfl, rfl, hl, hc, F2.ok R (.str _)⟩))
      · cases hz
    · cases hz
  | ref a =>
    simp only [ixVal] at hz
    split at hz
    · rename_i xs ho
      split at hz
      · rename_i i
        exact seq xs i rfl (by simp only [seqOf, ho]) hz
      · cases hz
    · rename_i kvs ho
      obtain ⟨k, hk, hg⟩ := Option.bind_eq_some_iff.mp hz
      obtain ⟨p, gs, rfl, hi, hp, rs⟩ := dk_ok R rv ho
      obtain ⟨u, hu, ru⟩ := (dget_kv rs).1 _ hg
      have ew := key_ok hk rw
      subst ew
      refine .inr (.inr (.inr ⟨p, u, rfl, ?_, F2.ok R ru⟩))
      rw [← hu]
      exact DGet.k hp
    · cases hz
  | tup xs =>
    simp only [ixVal] at hz
    split at hz
    · exact seq _ _ rfl rfl hz
    · cases hz
  | lst xs =>
    simp only [ixVal] at hz
    split at hz
    · exact seq _ _ rfl rfl hz
    · cases hz
  | rol xs =>
    simp only [ixVal] at hz
    split at hz
    · exact seq _ _ rfl rfl hz
    · cases hz
  | _ => cases hz

/-! ### slices -/
def rSlV (K : PySem.W.Frag) : V → Option Int → Option Int → Hp → VK → Prop := fun x lo hi H Q => rSlA K x lo hi H Q ∨ rSlS x lo hi H Q ∨ rSlL K x lo hi H Q
theorem slV_ok {X : Cx} : SlR X (rSlV X.K) := SlR.or sl_tupA (SlR.or sl_str sl_list)
theorem cutV_whole {vs : List V} {lo hi : Option Int} (e : HT.sIx vs.length 0 lo = 0 ∧ HT.sIx vs.length vs.length hi = vs.length) : cutV vs lo hi = vs := by
  unfold cutV
  rw [e.1, e.2]
  simp
theorem sl_val {x : Val} {v : V} {l u : Option Int} {Q : VK} (R : Rep K T ι G H h) (rv : RV K ι G H v x)
    (F : Fin K T (RV K) W σ ι G H (ofOpt (slV h x l u) h) Q) : rSlV K v l u H Q := by
  obtain ⟨z, hz, F2⟩ := F.ofOpt
  clear F
  have seq : ∀ xs, seqOf h x = some xs → isTup x = false → z = .lst (cutL xs l u) → rSlV K v l u H Q := by
    intro xs hs ht ez
    subst ez
    obtain ⟨p, vs, rfl, rs, hq⟩ := seq_ok R hs rv
    rcases hq with ⟨hq, _⟩ | ⟨_, hq⟩
    · exact .inr (.inr ⟨p, vs, rfl, hq, F2.lst R (rs.cut l u)⟩)
    · rw [ht] at hq; cases hq
  cases x with
  | tup xs =>
    cases hz
    cases rv with
    | tup ha rs =>
      rename_i p vs
      refine .inl ⟨p, vs, rfl, ha.sq, fun e => ?_, fun _ => F2.tup R (rs.cut l u)⟩
      have e2 : RVs K ι G H vs (cutL xs l u) := by
        have := rs.cut l u
        rw [cutV_whole e] at this
        exact this
      exact F2.ok R (.tup ha e2)
  | str s =>
    simp only [slV] at hz
    split at hz
    · rename_i hl
      cases hz
      cases rv
      exact .inr (.inl ⟨s, rfl, hl, F2.ok R (.str _)⟩)
    · cases hz
  | lst xs =>
    simp only [slV] at hz
    obtain ⟨xs, e, rfl⟩ := Option.map_eq_some_iff.mp hz
    exact seq xs e rfl rfl
  | rol xs =>
    simp only [slV] at hz
    obtain ⟨xs, e, rfl⟩ := Option.map_eq_some_iff.mp hz
    exact seq xs e rfl rfl
  | ref a =>
    simp only [slV] at hz
    obtain ⟨xs, e, rfl⟩ := Option.map_eq_some_iff.mp hz
    exact seq xs e rfl rfl
  | non => simp [slV, seqOf] at hz
  | bl b => simp [slV, seqOf] at hz
  | int i => simp [slV, seqOf] at hz

/-! ### isinstance -/
def tyN : Ty → String
  | .int => "int" | .bool => "bool" | .str => "str" | .tup => "tuple" | .lst => "list" | .cls _ => "type"
theorem kit_b (n t : Ty) (hn : isOwn n = false) (ht : isOwn t = false) : PySem.W.kitOne K (.type (tyN n)) (.type (tyN t)) = some (tyB n t) := by
  cases n <;> cases t <;> first | (cases hn; done) | (cases ht; done) | exact kit_ty (by decide +kernel)
theorem kit_non (t : Ty) (ht : isOwn t = false) : PySem.W.kitOne K (.type "NoneType") (.type (tyN t)) = some false := by
  cases t <;> first | (cases ht; done) | exact kit_ty (by decide +kernel)
theorem ty_sqL {a : Addr} {vs : List V} (h : SqL K H a vs) : TyX K H (.ref a) (.type "list") := by
  rcases h with (h | ⟨o, h⟩) | ⟨o, its, n, h1, h2, _⟩
  · exact .base (.lst h)
  · exact .base (.frz h)
  · exact .kList h1 h2
theorem ty_sqT {a : Addr} {vs : List V} (h : SqT K H a vs) : TyX K H (.ref a) (.type "tuple") := by
  rcases h with (h | ⟨o, h⟩) | ⟨o, its, n, h1, h2, _⟩
  · exact .base (.tup h)
  · exact .fTuple h
  · exact .kTuple h1 h2
theorem isi_val {t : Ty} {x : Val} {v : V} {Q : VK} (R : Rep K T ι G H h) (rv : RV K ι G H v x) (F : Fin K T (RV K) W σ ι G H (ofOpt ((isiV h t x).map .bl) h) Q) : rIsi K [v, .ty (tyN t)] H Q := by
  obtain ⟨z, hz, F2⟩ := F.ofOpt
  clear F
  obtain ⟨b, hb, rfl⟩ := Option.map_eq_some_iff.mp hz
  have q : Q (.bl b) H := F2.ok R (.bl b)
  have ht : isOwn t = false := by
    cases e : isOwn t with
    | false => rfl
    | true => unfold isiV at hb; rw [if_pos e] at hb; cases hb
  unfold isiV at hb
  rw [if_neg (by rw [ht]; exact Bool.false_ne_true)] at hb
  refine ⟨v, .ty (tyN t), ?_⟩
  cases rv with
  | non => exact ⟨_, _, _, rfl, .ty _, .base .non, by rw [kit_non t ht]; exact hb, q⟩
  | bl c => exact ⟨_, _, _, rfl, .ty _, .base (.bl c), by rw [show "bool" = tyN .bool from rfl, kit_b .bool t rfl ht]; exact hb, q⟩
  | int i => exact ⟨_, _, _, rfl, .ty _, .base (.int i), by rw [show "int" = tyN .int from rfl, kit_b .int t rfl ht]; exact hb, q⟩
  | str s => exact ⟨_, _, _, rfl, .ty _, .base (.str s), by rw [show "str" = tyN .str from rfl, kit_b .str t rfl ht]; exact hb, q⟩
  | tup ha rs => exact ⟨_, _, _, rfl, .ty _, ty_sqT ha.sq, by rw [show "tuple" = tyN .tup from rfl, kit_b .tup t rfl ht]; exact hb, q⟩
  | lst ha hn rs => exact ⟨_, _, _, rfl, .ty _, ty_sqL (SqL.of ha), by rw [show "list" = tyN .lst from rfl, kit_b .lst t rfl ht]; exact hb, q⟩
  | rol ha rs => exact ⟨_, _, _, rfl, .ty _, ty_sqL ha.sq, by rw [show "list" = tyN .lst from rfl, kit_b .lst t rfl ht]; exact hb, q⟩
  | ref hi =>
    simp only at hb
    split at hb
    · rename_i ys ho
      cases R.obj hi ho with
      | lst hp rs => exact ⟨_, _, _, rfl, .ty _, ty_sqL (SqL.of hp), by rw [show "list" = tyN .lst from rfl, kit_b .lst t rfl ht]; exact hb, q⟩
    · cases hb

/-! ### built-ins -/
theorem bls_ok : ∀ {xs : List Val} {vs : List V} {bs : List Bool}, allBl xs = some bs → RVs K ι G H vs xs → vs = bs.map V.bl
  | [], _, _, e, .nil => by cases e; rfl
  | .bl b :: xs, _, bs, e, .cons r rs => by
    obtain ⟨bs', e1, rfl⟩ := Option.map_eq_some_iff.mp e
    cases r
    rw [bls_ok e1 rs]
    rfl
theorem ints_ok : ∀ {xs : List Val} {vs : List V} {bs : List Int}, allInt xs = some bs → RVs K ι G H vs xs → vs = bs.map V.int
  | [], _, _, e, .nil => by cases e; rfl
  | .int b :: xs, _, bs, e, .cons r rs => by
    obtain ⟨bs', e1, rfl⟩ := Option.map_eq_some_iff.mp e
    cases r
    rw [ints_ok e1 rs]
    rfl
theorem list_ok {x : Val} {xs : List Val} {v : V} (R : Rep K T ι G H h) (e : listOf h x = some xs) (r : RV K ι G H v x) : ∃ p vs, v = .ref p ∧ RVs K ι G H vs xs ∧ SqL K H p vs := by
  have e2 : seqOf h x = some xs ∧ isTup x = false := by
    cases x <;> first | exact ⟨e, rfl⟩ | cases e
  obtain ⟨p, vs, h1, h2, h3⟩ := seq_ok R e2.1 r
  rcases h3 with ⟨h3, _⟩ | ⟨_, h3⟩
  · exact ⟨p, vs, h1, h2, h3⟩
  · rw [e2.2] at h3; cases h3
theorem maxI_spec : ∀ (ns : List Int), ns ≠ [] → maxI ns ∈ ns ∧ ∀ y ∈ ns, y ≤ maxI ns
  | [], h => absurd rfl h
  | [x], _ => ⟨by simp [maxI], by simp [maxI]⟩
  | x :: y :: r, _ => by
    have ⟨i1, i2⟩ := maxI_spec (y :: r) (by simp)
    have e : maxI (x :: y :: r) = if maxI (y :: r) > x then maxI (y :: r) else x := rfl
    rw [e]
    split
    · refine ⟨List.mem_cons_of_mem _ i1, fun z hz => ?_⟩
      rcases List.mem_cons.mp hz with rfl | hz
      · omega
      · exact i2 z hz
    · refine ⟨List.mem_cons_self, fun z hz => ?_⟩
      rcases List.mem_cons.mp hz with rfl | hz
      · omega
      · have := i2 z hz; omega
theorem minI_spec : ∀ (ns : List Int), ns ≠ [] → minI ns ∈ ns ∧ ∀ y ∈ ns, minI ns ≤ y
  | [], h => absurd rfl h
  | [x], _ => ⟨by simp [minI], by simp [minI]⟩
  | x :: y :: r, _ => by
    have ⟨i1, i2⟩ := minI_spec (y :: r) (by simp)
    have e : minI (x :: y :: r) = if minI (y :: r) < x then minI (y :: r) else x := rfl
    rw [e]
    split
    · refine ⟨List.mem_cons_of_mem _ i1, fun z hz => ?_⟩
      rcases List.mem_cons.mp hz with rfl | hz
      · omega
      · exact i2 z hz
    · refine ⟨List.mem_cons_self, fun z hz => ?_⟩
      rcases List.mem_cons.mp hz with rfl | hz
      · omega
      · have := i2 z hz; omega
def rBi (K : PySem.W.Frag) : Bi → List V → Hp → VK → Prop
  | .len => fun xs H Q => ∃ x n, xs = [x] ∧ LenV K x H n ∧ Q (.int n) H
  | .abs => fun xs H Q => ∃ i, xs = [.int i] ∧ Q (.int (if i < 0 then -i else i)) H
  | .int => fun xs H Q => (∃ i, xs = [.int i] ∧ Q (.int i) H) ∨ ∃ k, xs = [.bl k] ∧ Q (.int (if k then 1 else 0)) H
  | .str => fun xs H Q => ∃ i, xs = [.int i] ∧ i.natAbs.log2 < 1920 ∧ Q (.str (toString i)) H
  | .bool => fun xs H Q => (∃ i, xs = [.int i] ∧ Q (.bl (i != 0)) H) ∨ ∃ k, xs = [.bl k] ∧ Q (.bl k) H
  | .max2 => fun xs H Q => ∃ i j, xs = [.int i, .int j] ∧ Q (.int (if j > i then j else i)) H
  | .min2 => fun xs H Q => ∃ i j, xs = [.int i, .int j] ∧ Q (.int (if j < i then j else i)) H
  | .all => rAll K
  | .any => rAny K
  | .sum => rSum K
  | .max => rMax K
  | .min => rMin K
  | .tuple => fun xs H Q => ∃ p ys, xs = [.ref p] ∧ ((SqL K H p ys ∧ ∀ l, H l = none → Q (.ref l) (upd H l (.tup ys))) ∨ (SqT K H p ys ∧ Q (.ref p) H))
def biId : Bi → Value
  | .len => .builtin "len" | .abs => .builtin "abs" | .int => .type "int" | .str => .type "str" | .bool => .type "bool" | .max2 => .builtin "max" | .min2 => .builtin "min"
  | .all => .builtin "all" | .any => .builtin "any" | .sum => .builtin "sum" | .max => .builtin "max" | .min => .builtin "min" | .tuple => .type "tuple"
theorem bi_ok {X : Cx} (hc : X.calm = true) : ∀ b, CallR X (biId b) (rBi X.K b)
  | .len => call_len
  | .abs => call_abs
  | .int => call_int1
  | .str => call_str_int
  | .bool => call_bool1
  | .max2 => call_max2 hc
  | .min2 => call_min2 hc
  | .all => cr_all hc
  | .any => cr_any hc
  | .sum => cr_sum hc
  | .max => cr_max hc
  | .min => cr_min hc
  | .tuple => call_tuple_of
theorem bi_val (b : Bi) {xs : List Val} {vs : List V} {Q : VK} (R : Rep K T ι G H h) (rv : RVs K ι G H vs xs) (F : Fin K T (RV K) W σ ι G H (ofOpt (biV h b xs) h) Q) : rBi K b vs H Q := by
  obtain ⟨z, hz, F2⟩ := F.ofOpt
  clear F
  cases b with
  | len =>
    simp only [biV] at hz
    split at hz <;> first | (cases hz; done) | skip
    rename_i x
    obtain ⟨n, hn, rfl⟩ := Option.map_eq_some_iff.mp hz
    cases rv with
    | cons r rs =>
      rename_i v vs
      cases rs
      have seq : ∀ ys, seqOf h x = some ys → n = ys.length → rBi K .len [v] H Q := by
        intro ys hs ez
        subst ez
        obtain ⟨p, vs, rfl, rs, hq⟩ := seq_ok R hs r
        refine ⟨_, vs.length, rfl, ?_, by rw [rs.length]; exact F2.ok R (.int _)⟩
        rcases hq with ⟨hq, _⟩ | ⟨hq, _⟩
        · exact .inl ⟨vs, hq, rfl⟩
        · exact .inr ⟨vs, hq.sq, rfl⟩
      cases x with
      | str s =>
        simp only [lenV] at hn
        split at hn
        · rename_i hl
          cases hn
          cases r
          exact ⟨_, s.length, rfl, ⟨hl, rfl⟩, F2.ok R (.int _)⟩
        · cases hn
      | tup ys => cases hn; exact seq _ rfl rfl
      | lst ys => cases hn; exact seq _ rfl rfl
      | rol ys => cases hn; exact seq _ rfl rfl
      | ref a =>
        simp only [lenV] at hn
        obtain ⟨ys, e, rfl⟩ := Option.map_eq_some_iff.mp hn
        exact seq ys e rfl
      | non => simp [lenV, seqOf] at hn
      | bl b => simp [lenV, seqOf] at hn
      | int i => simp [lenV, seqOf] at hn
  | abs =>
    simp only [biV] at hz
    split at hz <;> first | (cases hz; done) | skip
    cases hz
    cases rv with | cons r rs => cases rs; cases r; exact ⟨_, rfl, F2.ok R (.int _)⟩
  | int =>
    simp only [biV] at hz
    split at hz <;> first | (cases hz; done) | skip
    · cases hz
      cases rv with | cons r rs => cases rs; cases r; exact .inl ⟨_, rfl, F2.ok R (.int _)⟩
    · cases hz
      cases rv with | cons r rs => cases rs; cases r; exact .inr ⟨_, rfl, F2.ok R (.int _)⟩
  | str =>
    simp only [biV] at hz
    split at hz <;> first | (cases hz; done) | skip
    split at hz
    · rename_i hl
      cases hz
      cases rv with | cons r rs => cases rs; cases r; exact ⟨_, rfl, hl, F2.ok R (.str _)⟩
    · cases hz
  | bool =>
    simp only [biV] at hz
    split at hz <;> first | (cases hz; done) | skip
    · cases hz
      cases rv with | cons r rs => cases rs; cases r; exact .inl ⟨_, rfl, F2.ok R (.bl _)⟩
    · cases hz
      cases rv with | cons r rs => cases rs; cases r; exact .inr ⟨_, rfl, F2.ok R (.bl _)⟩
  | max2 =>
    simp only [biV] at hz
    split at hz <;> first | (cases hz; done) | skip
    cases hz
    cases rv with | cons r rs => cases rs with | cons r2 rs => cases rs; cases r; cases r2; exact ⟨_, _, rfl, F2.ok R (.int _)⟩
  | min2 =>
    simp only [biV] at hz
    split at hz <;> first | (cases hz; done) | skip
    cases hz
    cases rv with | cons r rs => cases rs with | cons r2 rs => cases rs; cases r; cases r2; exact ⟨_, _, rfl, F2.ok R (.int _)⟩
  | all =>
    simp only [biV] at hz
    split at hz <;> first | (cases hz; done) | skip
    obtain ⟨ys, e, hz⟩ := Option.bind_eq_some_iff.mp hz
    obtain ⟨bs, e2, rfl⟩ := Option.map_eq_some_iff.mp hz
    cases rv with
    | cons r rs =>
      cases rs
      obtain ⟨p, vs, rfl, rs, hq⟩ := list_ok R e r
      have := bls_ok e2 rs
      subst this
      exact ⟨p, bs, rfl, hq, F2.ok R (.bl _)⟩
  | any =>
    simp only [biV] at hz
    split at hz <;> first | (cases hz; done) | skip
    obtain ⟨ys, e, hz⟩ := Option.bind_eq_some_iff.mp hz
    obtain ⟨bs, e2, rfl⟩ := Option.map_eq_some_iff.mp hz
    cases rv with
    | cons r rs =>
      cases rs
      obtain ⟨p, vs, rfl, rs, hq⟩ := list_ok R e r
      have := bls_ok e2 rs
      subst this
      exact ⟨p, bs, rfl, hq, F2.ok R (.bl _)⟩
  | sum =>
    simp only [biV] at hz
    split at hz <;> first | (cases hz; done) | skip
    obtain ⟨ys, e, hz⟩ := Option.bind_eq_some_iff.mp hz
    obtain ⟨bs, e2, rfl⟩ := Option.map_eq_some_iff.mp hz
    cases rv with
    | cons r rs =>
      cases rs
      obtain ⟨p, vs, rfl, rs, hq⟩ := list_ok R e r
      have := ints_ok e2 rs
      subst this
      exact ⟨p, bs, rfl, hq, F2.ok R (.int _)⟩
  | max =>
    simp only [biV] at hz
    split at hz <;> first | (cases hz; done) | skip
    obtain ⟨ys, e, hz⟩ := Option.bind_eq_some_iff.mp hz
    obtain ⟨ns, e2, hz⟩ := Option.bind_eq_some_iff.mp hz
    split at hz
    · cases hz
    · rename_i hne
      cases hz
      cases rv with
      | cons r rs =>
        cases rs
        obtain ⟨p, vs, rfl, rs, hq⟩ := list_ok R e r
        have := ints_ok e2 rs
        subst this
        refine ⟨p, ns, rfl, hq, by cases ns with | nil => exact absurd rfl hne | cons _ _ => simp, fun m h1 h2 => ?_⟩
        have sp := maxI_spec ns hne
        have : m = maxI ns := by
          have a := h2 _ sp.1
          have b := sp.2 _ h1
          omega
        subst this
        exact F2.ok R (.int _)
  | min =>
    simp only [biV] at hz
    split at hz <;> first | (cases hz; done) | skip
    obtain ⟨ys, e, hz⟩ := Option.bind_eq_some_iff.mp hz
    obtain ⟨ns, e2, hz⟩ := Option.bind_eq_some_iff.mp hz
    split at hz
    · cases hz
    · rename_i hne
      cases hz
      cases rv with
      | cons r rs =>
        cases rs
        obtain ⟨p, vs, rfl, rs, hq⟩ := list_ok R e r
        have := ints_ok e2 rs
        subst this
        refine ⟨p, ns, rfl, hq, by cases ns with | nil => exact absurd rfl hne | cons _ _ => simp, fun m h1 h2 => ?_⟩
        have sp := minI_spec ns hne
        have : m = minI ns := by
          have a := h2 _ sp.1
          have b := sp.2 _ h1
          omega
        subst this
        exact F2.ok R (.int _)
  | tuple =>
    simp only [biV] at hz
    split at hz <;> first | (cases hz; done) | skip
    obtain ⟨ys, e, rfl⟩ := Option.map_eq_some_iff.mp hz
    cases rv with
    | cons r rs =>
      cases rs
      obtain ⟨p, vs, rfl, rs, hq⟩ := seq_ok R e r
      refine ⟨p, vs, rfl, ?_⟩
      rcases hq with ⟨hq, _⟩ | ⟨hq, _⟩
      · exact .inl ⟨hq, F2.tup R rs⟩
      · exact .inr ⟨hq.sq, F2.ok R (.tup hq rs)⟩
end
end G

set_option maxHeartbeats 4000000
/-! GSem3: new lists, targets, what is walked, comprehensions. -/
namespace G
open PySem PySem.Spec PyProof.Rows L2
/-! ### new lists -/
def FinL (K : PySem.W.Frag) (T : Tie) (W : WX) (σ : L2.St) (ι : Io) (G : Gh) (H : Hp) (r : Res (List Val)) (Q : V → Hp → Prop) : Prop :=
  PR r (fun xs h' => ∀ ι' H' p vs, Ext ι H ι' H' → Rep K T ι' (addG G p) H' h' → H' p = some (.lst vs) → RVs K ι' (addG G p) H' vs xs → H p = none → Q (.ref p) H')
    (fun c fs h' => ∀ ι' H' cls d, Ext ι H ι' H' → Rep K T ι' G H' h' → RX K T ι' G H' cls d c fs → W cls d σ H')
def tF (K : PySem.W.Frag) (T : Tie) (W : WX) (g : Env → LH → Res (List Val)) : TE := fun σ H Q =>
  ∃ ι G h env, Rep K T ι G H h ∧ RE K T ι G H σ env ∧ FinL K T W σ ι G H (g env h) Q
section
variable {K : PySem.W.Frag} {T : Tie} {W : WX} {σ : L2.St} {ι ι' : Io} {G : Gh} {H H' : Hp} {h h' : LH} {env : Env} {α β : Type} {R : Io → Gh → Hp → β → α → Prop}
theorem FinL.mono {r : Res (List Val)} {Q : V → Hp → Prop} (e : Ext ι H ι' H') (Rp : Rep K T ι' G H' h) (F : FinL K T W σ ι G H r Q) : FinL K T W σ ι' G H' r Q := by
  cases r with
  | ok a h1 => exact fun ι2 H2 p vs e2 r1 r2 r3 r4 => F ι2 H2 p vs (e.trans e2) r1 r2 r3 (e.fresh Rp r4)
  | ex c fs h1 => exact fun ι2 H2 cls d e2 rp rx => F ι2 H2 cls d (e.trans e2) rp rx
  | bad => exact F
theorem FinL.bind {r : Res α} {f : α → LH → Res (List Val)} {Q : V → Hp → Prop} (F : FinL K T W σ ι G H (r.bind f) Q) :
    Fin K T R W σ ι G H r fun v H1 => ∃ ι1 h1 x, Ext ι H ι1 H1 ∧ Rep K T ι1 G H1 h1 ∧ R ι1 G H1 v x ∧ FinL K T W σ ι1 G H1 (f x h1) Q := by
  cases r with
  | ok a h1 => exact fun ι' H' v e rp rv => ⟨ι', h1, a, e, rp, rv, FinL.mono e rp F⟩
  | ex c fs h1 => exact F
  | bad => exact F
theorem FinL.new {xs : List Val} {vs : List V} {Q : V → Hp → Prop} (F : FinL K T W σ ι G H (.ok xs h) Q) (Rp : Rep K T ι G H h) (r : RVs K ι G H vs xs) :
    ∀ p, H p = none → Q (.ref p) (upd H p (.lst vs)) := fun p hp => F ι _ p vs (Rp.lay hp) (Rp.add hp) upd_same (r.kp (kp_add Rp hp)) hp
theorem FinL.ofOpt {o : Option (List Val)} {Q : V → Hp → Prop} (F : FinL K T W σ ι G H (ofOpt o h) Q) : ∃ x, o = some x ∧ FinL K T W σ ι G H (.ok x h) Q := by
  cases o with
  | some x => exact ⟨x, rfl, F⟩
  | none => exact F.elim
/-- a new list that stays as it is -/
theorem fr_val {M : Pm} {f : F} : ∀ σ H Q, tE K T W (fun env h => ev M env (.fr f) h) σ H Q → tF K T W (fun env h => evF M env f h) σ H Q := by
  rintro σ H Q ⟨ι, G, h, env, Rp, E, F⟩
  refine ⟨ι, G, h, env, Rp, E, ?_⟩
  have F2 : Fin K T (RV K) W σ ι G H ((evF M env f h).bind fun xs h1 => .ok (.lst xs) h1) Q := F
  clear F
  show FinL K T W σ ι G H (evF M env f h) Q
  revert F2
  generalize evF M env f h = r
  intro F
  cases r with
  | ok xs h1 =>
    intro ι' H' p vs e1 r1 r2 r3 r4
    exact F ι' H' (.ref p) e1 r1.drop (.lst r2 ⟨r1.gd p (.inr rfl), Rp.freeG r4⟩ (r3.kp kp_drop))
  | ex c fs h1 => exact F
  | bad => exact F
/-- .. that may change -/
theorem bx_val {M : Pm} {f : F} : ∀ σ H Q, tE K T W (fun env h => ev M env (.bx f) h) σ H Q → tF K T W (fun env h => evF M env f h) σ H Q := by
  rintro σ H Q ⟨ι, G, h, env, Rp, E, F⟩
  refine ⟨ι, G, h, env, Rp, E, ?_⟩
  have F2 : Fin K T (RV K) W σ ι G H ((evF M env f h).bind fun xs h1 => .ok (.ref h1.length) (h1 ++ [.lst xs])) Q := F
  clear F
  show FinL K T W σ ι G H (evF M env f h) Q
  revert F2
  generalize evF M env f h = r
  intro F
  cases r with
  | ok xs h1 =>
    intro ι' H' p vs e1 r1 r2 r3 r4
    refine F (ins ι' h1.length p) H' (.ref p) ⟨fun a q z => (kp_box r1).1 a q (e1.mono a q z), e1.keep, fun a q z => ?_⟩ (r1.box (Rp.freeG r4) (.lst r2 r3)) (.ref (by unfold ins; simp))
    unfold ins at z
    split at z
    · cases z; exact .inr ⟨r4, Rp.free r4⟩
    · exact e1.new a q z
  | ex c fs h1 => exact F
  | bad => exact F
/-- two parts, one part, then a rule -/
theorem goL2 {ga gb : Env → LH → Res Val} {r : V → V → Hp → (V → Hp → Prop) → Prop} {f : Val → Val → LH → Res (List Val)}
    (hr : ∀ σ ι G H h x y v w Q, Rep K T ι G H h → RV K ι G H v x → RV K ι G H w y → FinL K T W σ ι G H (f x y h) Q → r v w H Q) :
    ∀ σ H Q, tF K T W (fun env h => (ga env h).bind fun x h1 => (gb env h1).bind fun y h2 => f x y h2) σ H Q → tE K T W ga σ H fun v H1 => tE K T W gb σ H1 fun w H2 => r v w H2 Q := by
  rintro σ H Q ⟨ι, G, h, env, R, E, F⟩
  refine ⟨ι, G, h, env, R, E, (FinL.bind (R := RV K) F).imp ?_⟩
  rintro v H1 ⟨ι1, h1, x, e1, R1, rv, F1⟩
  refine ⟨ι1, G, h1, env, R1, E.mono e1, (FinL.bind (R := RV K) F1).imp ?_⟩
  rintro w H2 ⟨ι2, h2, y, e2, R2, rw, F2⟩
  exact hr σ ι2 G H2 h2 x y v w Q R2 (rv.mono e2) rw F2
theorem goL1 {ga : Env → LH → Res Val} {r : V → Hp → (V → Hp → Prop) → Prop} {f : Val → LH → Res (List Val)}
    (hr : ∀ σ ι G H h x v Q, Rep K T ι G H h → RV K ι G H v x → FinL K T W σ ι G H (f x h) Q → r v H Q) :
    ∀ σ H Q, tF K T W (fun env h => (ga env h).bind fun x h1 => f x h1) σ H Q → tE K T W ga σ H fun v H1 => r v H1 Q := by
  rintro σ H Q ⟨ι, G, h, env, R, E, F⟩
  refine ⟨ι, G, h, env, R, E, (FinL.bind (R := RV K) F).imp ?_⟩
  rintro v H1 ⟨ι1, h1, x, e1, R1, rv, F1⟩
  exact hr σ ι1 G H1 h1 x v Q R1 rv F1
theorem cat_val {x y : Val} {v w : V} {Q : VK} (R : Rep K T ι G H h) (rv : RV K ι G H v x) (rw : RV K ι G H w y) (F : FinL K T W σ ι G H (ofOpt (catL h x y) h) Q) : rCat v w H Q := by
  obtain ⟨zs, e, F⟩ := F.ofOpt
  obtain ⟨p, q, vs, ws, rfl, rfl, h1, h2, h3, h4⟩ := cat_ok R e rv rw
  exact ⟨p, q, vs, ws, rfl, rfl, h1, h2, h3, F.new R h4⟩
theorem rep_val {x y : Val} {v w : V} {Q : VK} (R : Rep K T ι G H h) (rv : RV K ι G H v x) (rw : RV K ι G H w y)
    (F : FinL K T W σ ι G H (match y with | .int k => ofOpt (repL h x k) h | _ => .bad) Q) : rRep v w H Q := by
  cases rw with
  | int k =>
    obtain ⟨zs, e, F⟩ := FinL.ofOpt F
    obtain ⟨p, vs, rfl, h1, h2, h3, h4, h5⟩ := rep_ok R e rv
    exact ⟨p, _, vs, rfl, rfl, h1, h2, h3, h4, F.new R h5⟩
  | _ => exact F.elim
theorem listc_val {x : Val} {vs : List V} {v : V} {Q : VK} (R : Rep K T ι G H h) (rv : RV K ι G H v x) (F : FinL K T W σ ι G H (ofOpt (seqOf h x) h) Q) :
    ∃ p ys, [v] = [V.ref p] ∧ (SqL K H p ys ∨ SqT K H p ys) ∧ ∀ l, H l = none → Q (.ref l) (upd H l (.lst ys)) := by
  obtain ⟨xs, e, F⟩ := F.ofOpt
  obtain ⟨p, vs, rfl, rs, hq⟩ := seq_ok R e rv
  refine ⟨p, vs, rfl, ?_, F.new R rs⟩
  rcases hq with ⟨hq, _⟩ | ⟨hq, _⟩
  · exact .inl hq
  · exact .inr hq.sq
theorem lsl_val {x : Val} {v : V} {l u : Option Int} {Q : VK} (R : Rep K T ι G H h) (rv : RV K ι G H v x)
    (F : FinL K T W σ ι G H (match x with | .tup _ => .bad | x => ofOpt ((seqOf h x).map fun xs => cutL xs l u) h) Q) : rSlL K v l u H Q := by
  have go : isTup x = false → FinL K T W σ ι G H (ofOpt ((seqOf h x).map fun xs => cutL xs l u) h) Q → rSlL K v l u H Q := by
    intro ht F
    obtain ⟨zs, e0, F2⟩ := F.ofOpt
    obtain ⟨xs, e, rfl⟩ := Option.map_eq_some_iff.mp e0
    obtain ⟨p, vs, rfl, rs, hq⟩ := seq_ok R e rv
    rcases hq with ⟨hq, _⟩ | ⟨_, hq⟩
    · exact ⟨p, vs, rfl, hq, F2.new R (rs.cut l u)⟩
    · rw [ht] at hq; cases hq
  cases x with
  | tup xs => exact F.elim
  | _ => exact go rfl F

/-! ### targets -/
theorem wipe_get (σ : L2.St) : ∀ (vs : List Nat) (j : Nat), (wipe σ vs)[j]? = if j ∈ vs then (σ[j]?).map (fun _ => none) else σ[j]?
  | [], j => by simp [wipe]
  | v :: vs, j => by
    unfold wipe
    by_cases z : v = j
    · subst z
      rw [if_pos List.mem_cons_self]
      by_cases l : v < σ.length
      · rw [List.getElem?_set_self (by rw [wipe_length]; exact l)]
        simp [l]
      · rw [List.getElem?_eq_none (by simp [wipe_length]; omega), List.getElem?_eq_none (by omega)]
        rfl
    · rw [List.getElem?_set_ne z, wipe_get σ vs j]
      simp [Ne.symm z]
theorem wipe_wipe (σ : L2.St) (vs : List Nat) : wipe (wipe σ vs) vs = wipe σ vs := by
  apply List.ext_getElem?
  intro j
  rw [wipe_get, wipe_get]
  split
  · cases σ[j]? <;> rfl
  · rfl
theorem wipe_set (σ : L2.St) (vs : List Nat) (i : Nat) (x : Option V) (hi : i ∈ vs) : wipe (σ.set i x) vs = wipe σ vs := by
  apply List.ext_getElem?
  intro j
  rw [wipe_get, wipe_get]
  by_cases z : i = j
  · subst z
    rw [if_pos hi, if_pos hi]
    by_cases l : i < σ.length
    · rw [List.getElem?_set_self l]; simp [l]
    · rw [List.getElem?_eq_none (by simp; omega), List.getElem?_eq_none (by omega)]
  · rw [List.getElem?_set_ne z]
theorem RE.wipe {σ : L2.St} {env : Env} (r : RE K T ι G H σ env) : ∀ vs : List Nat, RE K T ι G H (L2.wipe σ vs) (wipeL env vs)
  | [] => r
  | v :: vs => (RE.wipe r vs).setN v
/-- what a target's reading is -/
def gTg (K : PySem.W.Frag) : Tg → TG
  | .v i => gName i
  | .tup is => fun v σ H Q => gTup K is.length (fun vs σ H Q => vs.length = is.length ∧ Q ((is.zip vs).foldl (fun σ p => σ.set p.1 (some p.2)) σ) H) v σ H Q ∨
      gLst K is.length (fun vs σ H Q => vs.length = is.length ∧ Q ((is.zip vs).foldl (fun σ p => σ.set p.1 (some p.2)) σ) H) v σ H Q
theorem RE.fold : ∀ {is : List Nat} {vs : List V} {xs : List Val} {σ : L2.St} {env : Env}, RE K T ι G H σ env → RVs K ι G H vs xs →
    RE K T ι G H ((is.zip vs).foldl (fun σ p => σ.set p.1 (some p.2)) σ) ((is.zip xs).foldl (fun σ p => σ.set p.1 (some p.2)) env)
  | [], _, _, _, _, r, _ => r
  | i :: is, _, _, _, _, r, .nil => r
  | i :: is, _, _, _, _, r, .cons q qs => RE.fold (is := is) (r.set q) qs
theorem tg_val {t : Tg} {x : Val} {v : V} {σ : L2.St} {env env' : Env} {Q : L2.St → Hp → Prop} (R : Rep K T ι G H h) (E : RE K T ι G H σ env) (rv : RV K ι G H v x) (e : assignT t x h env = some env')
    (q : ∀ σ', RE K T ι G H σ' env' → (∀ vs, (∀ i ∈ t.slots, i ∈ vs) → L2.wipe σ' vs = L2.wipe σ vs) → Q σ' H) : gTg K t v σ H Q := by
  cases t with
  | v i =>
    cases e
    exact q _ (E.set rv) fun vs hv => wipe_set σ vs i _ (hv i (by simp [Tg.slots]))
  | tup is =>
    simp only [assignT] at e
    split at e
    · rename_i xs hs
      split at e
      · rename_i hl
        cases e
        obtain ⟨p, vs, rfl, rs, hq⟩ := seq_ok R hs rv
        have hw : ∀ (is : List Nat) (ws : List V) (σ : L2.St) (own : List Nat), (∀ i ∈ is, i ∈ own) → L2.wipe ((is.zip ws).foldl (fun σ p => σ.set p.1 (some p.2)) σ) own = L2.wipe σ own := by
          intro is
          induction is with
          | nil => intro ws σ own _; rfl
          | cons i is ih =>
            intro ws σ own ho
            cases ws with
            | nil => rfl
            | cons w ws =>
              show L2.wipe ((is.zip ws).foldl _ (σ.set i (some w))) own = _
              rw [ih ws _ own fun j hj => ho j (List.mem_cons_of_mem _ hj), wipe_set σ own i _ (ho i List.mem_cons_self)]
        have fin := q _ (E.fold (is := is) rs) fun own ho => hw is vs σ own (fun i hi => ho i hi)
        rcases hq with ⟨hq, _⟩ | ⟨hq, _⟩
        · exact .inr ⟨p, vs, rfl, hq, by rw [rs.length, hl], by rw [rs.length, hl], fin⟩
        · exact .inl ⟨p, vs, rfl, hq.sq, by rw [rs.length, hl], by rw [rs.length, hl], fin⟩
      · cases e
    · cases e

/-! ### what is walked -/
/-- J walks what s says, wherever what is fixed stays fixed -/
def SrcOk (K : PySem.W.Frag) (T : Tie) (ι : Io) (G : Gh) (H : Hp) (s : Src) (J : It) : Prop :=
  ∀ i ι2 G2 H2 h2, Kp ι G H ι2 G2 H2 → Rep K T ι2 G2 H2 h2 →
    (s.next h2 i = some none → J.stop i H2) ∧
    ∀ x, s.next h2 i = some (some x) → J.go i H2 ∧ ∀ v H', J.yld i H2 v H' → Ext ι2 H2 ι2 H' ∧ Rep K T ι2 G2 H' h2 ∧ RV K ι2 G2 H' v x
/-- the reading of an iterable by its evaluation -/
def tI (K : PySem.W.Frag) (T : Tie) (W : WX) (g : Env → LH → Res Src) : TI := fun σ H R => ∃ ι G h env, Rep K T ι G H h ∧ RE K T ι G H σ env ∧
  PR (g env h) (fun s h' => ∀ ι' H' J, Ext ι H ι' H' → Rep K T ι' G H' h' → SrcOk K T ι' G H' s J → R J H')
    (fun c fs h' => ∀ ι' H' cls d, Ext ι H ι' H' → Rep K T ι' G H' h' → RX K T ι' G H' cls d c fs → W cls d σ H')
theorem Kp.trans {ι2 : Io} {G2 G3 : Gh} {H2 : Hp} (a : Kp ι G H ι' G2 H') (b : Kp ι' G2 H' ι2 G3 H2) : Kp ι G H ι2 G3 H2 :=
  ⟨fun x p e => b.1 x p (a.1 x p e), fun p o e av => let ⟨e1, av1⟩ := a.2 p o e av; b.2 p o e1 av1⟩
theorem src_list {p : Addr} {vs : List V} {xs : List Val} (hq : RolAt K ι G H p vs) (rs : RVs K ι G H vs xs) : SrcOk K T ι G H (.one (.fix xs)) (Itl K p) := by
  intro i ι2 G2 H2 h2 k R
  have hq2 := (hq.kp k).sq
  have rs2 := rs.kp k
  constructor
  · intro e
    refine ⟨vs, hq2, ?_⟩
    have : xs[i]? = none := by simpa [Src.next, Src1.list] using e
    rw [rs2.length]
    exact List.getElem?_eq_none_iff.mp this
  · intro x e
    have : xs[i]? = some x := by simpa [Src.next, Src1.list] using e
    obtain ⟨v, hv, rv⟩ := rs2.get this
    refine ⟨⟨vs, v, hq2, hv⟩, ?_⟩
    rintro v' H' ⟨rfl, y⟩
    have := y vs hq2
    rw [hv] at this; cases this
    exact ⟨Ext.refl _ _, R, rv⟩
theorem src_tup {p : Addr} {vs : List V} {xs : List Val} (hq : TupAt K ι G H p vs) (rs : RVs K ι G H vs xs) : SrcOk K T ι G H (.one (.fix xs)) (Itt K p) := by
  intro i ι2 G2 H2 h2 k R
  have hq2 := (hq.kp k).sq
  have rs2 := rs.kp k
  constructor
  · intro e
    refine ⟨vs, hq2, ?_⟩
    have : xs[i]? = none := by simpa [Src.next, Src1.list] using e
    rw [rs2.length]
    exact List.getElem?_eq_none_iff.mp this
  · intro x e
    have : xs[i]? = some x := by simpa [Src.next, Src1.list] using e
    obtain ⟨v, hv, rv⟩ := rs2.get this
    refine ⟨⟨vs, v, hq2, hv⟩, ?_⟩
    rintro v' H' ⟨rfl, y⟩
    have := y vs hq2
    rw [hv] at this; cases this
    exact ⟨Ext.refl _ _, R, rv⟩
theorem src_box {p : Addr} {a : Nat} (hi : ι a = some p) : SrcOk K T ι G H (.one (.box a)) (Itl K p) := by
  intro i ι2 G2 H2 h2 k R
  have hi2 := k.1 a p hi
  have at_ : ∀ ys, (Src1.box a).list h2 = some ys → ∃ vs, SqL K H2 p vs ∧ RVs K ι2 G2 H2 vs ys := by
    intro ys e
    simp only [Src1.list] at e
    split at e
    · rename_i zs ho
      cases e
      cases R.obj hi2 ho with
      | lst hp rs => exact ⟨_, SqL.of hp, rs⟩
    · cases e
  constructor
  · intro e
    obtain ⟨ys, e1, e2⟩ := Option.map_eq_some_iff.mp e
    obtain ⟨vs, hq, rs⟩ := at_ ys e1
    exact ⟨vs, hq, by rw [rs.length]; exact List.getElem?_eq_none_iff.mp e2⟩
  · intro x e
    obtain ⟨ys, e1, e2⟩ := Option.map_eq_some_iff.mp e
    obtain ⟨vs, hq, rs⟩ := at_ ys e1
    obtain ⟨v, hv, rv⟩ := rs.get e2
    refine ⟨⟨vs, v, hq, hv⟩, ?_⟩
    rintro v' H' ⟨rfl, y⟩
    have := y vs hq
    rw [hv] at this; cases this
    exact ⟨Ext.refl _ _, R, rv⟩
theorem src_str {z : Str} : SrcOk K T ι G H (.one (.fix (z.cps.toList.map fun c => .str (st [c])))) (Its z) := by
  intro i ι2 G2 H2 h2 k R
  constructor
  · intro e
    have : z.cps[i]? = none := by simpa [Src.next, Src1.list] using e
    exact Array.getElem?_eq_none_iff.mp this
  · intro x e
    have : ∃ c, z.cps[i]? = some c ∧ x = .str (st [c]) := by
      simp only [Src.next, Src1.list, Option.map_some, Option.some.injEq, List.getElem?_map] at e
      obtain ⟨c, h1, h2⟩ := Option.map_eq_some_iff.mp e
      exact ⟨c, by simpa using h1, h2.symm⟩
    obtain ⟨c, hc, rfl⟩ := this
    refine ⟨(Array.getElem?_eq_some_iff.mp hc).1, ?_⟩
    rintro v' H' ⟨rfl, c', hc', rfl⟩
    rw [hc] at hc'; cases hc'
    exact ⟨Ext.refl _ _, R, .str _⟩
theorem rngL_get (lo : Int) (n i : Nat) : (rngL lo n)[i]? = if i < n then some (.int (lo + i)) else none := by
  unfold rngL
  rw [List.getElem?_map]
  split
  · rename_i l; rw [List.getElem?_range l]; rfl
  · rename_i l; rw [List.getElem?_eq_none (by simp; omega)]; rfl
theorem src_rng {lo : Int} {n : Nat} : SrcOk K T ι G H (.one (.fix (rngL lo n))) (Itr lo n) := by
  intro i ι2 G2 H2 h2 k R
  constructor
  · intro e
    have e2 : (rngL lo n)[i]? = none := by simpa [Src.next, Src1.list] using e
    rw [rngL_get] at e2
    show n ≤ i
    split at e2
    · cases e2
    · omega
  · intro x e
    have e2 : (rngL lo n)[i]? = some x := by simpa [Src.next, Src1.list] using e
    rw [rngL_get] at e2
    split at e2
    · rename_i l
      cases e2
      refine ⟨l, ?_⟩
      rintro v' H' ⟨rfl, rfl⟩
      exact ⟨Ext.refl _ _, R, .int _⟩
    · cases e2
end
end G

set_option maxHeartbeats 4000000
/-! GSem4: comprehensions; objects, fields, methods of lists. -/
namespace G
open PySem PySem.Spec PyProof.Rows L2
abbrev WF : WX := fun _ _ _ _ => False
theorem bind_assoc {α β γ : Type} (r : Res α) (f : α → LH → Res β) (g : β → LH → Res γ) : (r.bind f).bind g = r.bind fun x h => (f x h).bind g := by
  cases r <;> rfl
/-- an expression as a test -/
def evT (M : Pm) (σ : Env) (t : E) (h : LH) : Res Bool := (ev M σ t h).bind fun x h1 => ofOpt (truth h1 x) h1
section
variable {K : PySem.W.Frag} {T : Tie} {W : WX} {σ : L2.St} {ι ι' : Io} {G : Gh} {H H' : Hp} {h h' : LH} {env : Env}
/-- what one turn of a comprehension has to do -/
def TurnOk (K : PySem.W.Frag) (T : Tie) (σ : L2.St) (env : Env) (vs : List Nat) (body : Val → LH → Res (Option Val)) (g : TG) (tt : TT) (te : TE) : Prop :=
  ∀ ι2 G2 H2 h2 x v o h3, Rep K T ι2 G2 H2 h2 → RE K T ι2 G2 H2 (L2.wipe σ vs) (wipeL env vs) → RV K ι2 G2 H2 v x → body x h2 = .ok o h3 →
    ∀ (Ky : V → Hp → Prop) (Kn : Hp → Prop), (∀ y, o = some y → ∀ ι3 H3 w, Ext ι2 H2 ι3 H3 → Rep K T ι3 G2 H3 h3 → RV K ι3 G2 H3 w y → Ky w H3) →
      (o = none → ∀ ι3 H3, Ext ι2 H2 ι3 H3 → Rep K T ι3 G2 H3 h3 → Kn H3) →
      g v (L2.wipe σ vs) H2 fun σ2 H3 => L2.wipe σ2 vs = L2.wipe σ vs ∧ tt σ2 H3 fun b H4 => if b = true then te σ2 H4 Ky else Kn H4
theorem comp_core {s : Src} {J : L2.It} {body : Val → LH → Res (Option Val)} {Q : VK} {g : TG} {tt : TT} {te : TE} {vs : List Nat} {k : Nat} (R1 : Rep K T ι G H h) (sk : SrcOk K T ι G H s J) (E : RE K T ι G H σ env)
    (F : FinL K T W σ ι G H (compN body s k 0 [] h) Q) (turn : TurnOk K T σ env vs body g tt te) :
    ∀ D, H D = none → ∃ W' : Nat → Nat → Hp → Prop, (∃ m, W' 0 m (upd H D (.lst []))) ∧ ∀ i m H2, W' i m H2 →
      (J.stop i H2 ∧ Q (.ref D) H2) ∨ (J.go i H2 ∧ ∃ Nx : Hp → Prop, (∀ H', Nx H' → ∃ m', m' < m ∧ W' (i + 1) m' H') ∧ ∀ x H', J.yld i H2 x H' → g x (L2.wipe σ vs) H' fun σ2 H3 => L2.wipe σ2 vs = L2.wipe σ vs ∧ tt σ2 H3 fun b H4 =>
        if b = true then te σ2 H4 fun y H5 => ∃ acc, H5 D = some (.lst acc) ∧ acc.length < sizeLine ∧ Nx (upd H5 D (.lst (acc ++ [y]))) else Nx H4) := by
  intro D hD
  refine ⟨fun i m H2 => ∃ ι2 h2 acc ws, Ext ι H ι2 H2 ∧ Kp ι G H ι2 (addG G D) H2 ∧ Rep K T ι2 (addG G D) H2 h2 ∧ H2 D = some (.lst ws) ∧ RVs K ι2 (addG G D) H2 ws acc ∧ FinL K T W σ ι G H (compN body s m i acc h2) Q,
    ⟨k, ι, h, [], [], R1.lay hD, kp_add R1 hD, R1.add hD, upd_same, .nil, F⟩, ?_⟩
  rintro i m H2 ⟨ι2, h2, acc, ws, ex, kp, R2, hd, rs, F2⟩
  obtain ⟨sk1, sk2⟩ := sk i ι2 (addG G D) H2 h2 kp R2
  unfold compN at F2
  cases hn : s.next h2 i with
  | none => rw [hn] at F2; exact F2.elim
  | some o =>
    rw [hn] at F2
    cases o with
    | none => exact .inl ⟨sk1 hn, F2 ι2 H2 D ws ex R2 hd rs hD⟩
    | some x =>
      right
      cases m with
      | zero => exact F2.elim
      | succ m =>
        simp only at F2
        obtain ⟨go, yl⟩ := sk2 x hn
        cases hb : body x h2 with
        | bad => rw [hb] at F2; exact F2.elim
        | ex c fs h3 => rw [hb] at F2; exact F2.elim
        | ok o h3 =>
          rw [hb] at F2
          refine ⟨go, fun H' => ∃ ι3 acc' ws', Ext ι H ι3 H' ∧ Kp ι G H ι3 (addG G D) H' ∧ Rep K T ι3 (addG G D) H' h3 ∧ H' D = some (.lst ws') ∧ RVs K ι3 (addG G D) H' ws' acc' ∧ FinL K T W σ ι G H (compN body s m (i + 1) acc' h3) Q,
            fun H' ⟨ι3, acc', ws', a, b, c, d, e, f⟩ => ⟨m, Nat.lt_succ_self m, ι3, h3, acc', ws', a, b, c, d, e, f⟩, ?_⟩
          intro v H3 hy
          obtain ⟨ex3, R3, rv⟩ := yl v H3 hy
          have nD : ∀ a, ι2 a ≠ some D := R2.gd D (.inr rfl)
          have hd3 : H3 D = some (.lst ws) := ex3.keep D _ hd nD
          have ex03 : Ext ι H ι2 H3 := ex.trans ex3
          have kp03 : Kp ι G H ι2 (addG G D) H3 := kp.trans ex3.kp
          refine turn ι2 (addG G D) H3 h2 x v o h3 R3 ((E.wipe vs).kp kp03) rv hb _ _ ?_ ?_
          · intro y ho ι4 H4 w e4 R4 rw
            subst ho
            have nD3 : ∀ a, ι4 a ≠ some D := R4.gd D (.inr rfl)
            have hd4 : H4 D = some (.lst ws) := e4.keep D _ hd3 nD
            simp only at F2
            split at F2
            · rename_i hl
              have rs4 : RVs K ι4 (addG G D) H4 (ws ++ [w]) (acc ++ [y]) := (rs.mono (ex3.trans e4)).append (.cons rw .nil)
              have e04 := ex03.trans e4
              have k04 : Kp ι G H ι4 (addG G D) H4 := kp03.trans e4.kp
              have ks : Kp ι4 (addG G D) H4 ι4 (addG G D) (upd H4 D (.lst (ws ++ [w]))) := kp_setG (.inr rfl)
              refine ⟨ws, hd4, by rw [rs.length]; exact hl, ι4, acc ++ [y], ws ++ [w], ⟨e04.mono, fun p u hp n => ?_, e04.new⟩, k04.trans ks, R4.setG (.inr rfl), upd_same, rs4.kp ks, F2⟩
              rw [upd_ne (ne_of_none hp hD)]
              exact e04.keep p u hp n
            · exact F2.elim
          · intro ho ι4 H4 e4 R4
            subst ho
            exact ⟨ι4, acc, ws, ex03.trans e4, kp03.trans e4.kp, R4, e4.keep D _ hd3 nD, rs.mono (ex3.trans e4), F2⟩
theorem lc_val {M : Pm} {tg : Tg} {it : Wk} {t e : E} : ∀ σ H Q, tF K T W (fun env h => evF M env (.lc tg it t e) h) σ H Q →
    tLc (tI K T W fun env h => evI M env it h) (gTg K tg) (tT K T WF fun env h => evT M env t h) (tE K T WF fun env h => ev M env e h) tg.slots σ H Q := by
  rintro σ H Q ⟨ι, G, h, env, Rp, E, F⟩
  refine ⟨ι, G, h, env, Rp, E, ?_⟩
  have F2 : FinL K T W σ ι G H ((evI M env it h).bind fun s h1 => match s.len h1 with
    | some n => compN (fun x h => match assignT tg x h (wipeT tg env) with
        | some σ' => (ev M σ' t h).bind fun c h2 => (ofOpt (truth h2 c) h2).bind fun k h3 => if k = true then (ev M σ' e h3).bind fun y h4 => .ok (some y) h4 else .ok none h3
        | none => .bad) s n 0 [] h1
    | none => .bad) Q := F
  clear F
  show PR (evI M env it h) _ _
  revert F2
  cases evI M env it h with
  | bad => exact fun F => F
  | ex c fs h1 => exact fun F => F
  | ok s h1 =>
    intro F ι1 H1 J ex R1 sk
    have F := FinL.mono ex R1 F
    have F : FinL K T W σ ι1 G H1 (match s.len h1 with
      | some n => compN (fun x h => match assignT tg x h (wipeT tg env) with
          | some σ' => (ev M σ' t h).bind fun c h2 => (ofOpt (truth h2 c) h2).bind fun k h3 => if k = true then (ev M σ' e h3).bind fun y h4 => .ok (some y) h4 else .ok none h3
          | none => .bad) s n 0 [] h1
      | none => .bad) Q := F
    cases hl : s.len h1 with
    | none => rw [hl] at F; exact F.elim
    | some n =>
      rw [hl] at F
      refine comp_core (env := env) R1 sk (E.mono ex) F ?_
      intro ι2 G2 H2 h2 x v o h3 R2 E2 rv hb Ky Kn hy hn
      simp only at hb
      cases ha : assignT tg x h2 (wipeT tg env) with
      | none => rw [ha] at hb; cases hb
      | some σ' =>
        rw [ha] at hb
        simp only at hb
        refine tg_val R2 E2 rv ha fun σ2 E3 hw => ⟨by rw [hw tg.slots fun i hi => hi, wipe_wipe], ι2, G2, h2, σ', R2, E3, ?_⟩
        rw [← bind_assoc] at hb
        have hb : (evT M σ' t h2).bind (fun k h3 => if k = true then (ev M σ' e h3).bind fun y h4 => .ok (some y) h4 else .ok none h3) = .ok o h3 := hb
        show Fin K T RId WF σ2 ι2 G2 H2 (evT M σ' t h2) _
        revert hb
        cases evT M σ' t h2 with
        | bad => exact fun z => by cases z
        | ex c fs h4 => exact fun z => by cases z
        | ok b h4 =>
          intro hb ι3 H3 b' e3 R3 eb
          have eb : b' = b := eb
          subst eb
          have hb : (if b' = true then (ev M σ' e h4).bind fun y h4 => .ok (some y) h4 else .ok none h4) = .ok o h3 := hb
          cases b' with
          | false =>
            rw [if_neg Bool.false_ne_true] at hb ⊢
            cases hb
            exact hn rfl ι3 H3 e3 R3
          | true =>
            rw [if_pos rfl] at hb ⊢
            refine ⟨ι3, G2, h4, σ', R3, E3.mono e3, ?_⟩
            show Fin K T (RV K) WF σ2 ι3 G2 H3 (ev M σ' e h4) _
            revert hb
            cases ev M σ' e h4 with
            | bad => exact fun z => by cases z
            | ex c fs h5 => exact fun z => by cases z
            | ok y h5 =>
              intro hb ι4 H4 w e4 R4 rw
              cases hb
              exact hy y rfl ι4 H4 w (e3.trans e4) R4 rw
theorem lc0_val {M : Pm} {tg : Tg} {it : Wk} {e : E} : ∀ σ H Q, tF K T W (fun env h => evF M env (.lc0 tg it e) h) σ H Q →
    tLc (tI K T W fun env h => evI M env it h) (gTg K tg) tYes (tE K T WF fun env h => ev M env e h) tg.slots σ H Q := by
  rintro σ H Q ⟨ι, G, h, env, Rp, E, F⟩
  refine ⟨ι, G, h, env, Rp, E, ?_⟩
  have F2 : FinL K T W σ ι G H ((evI M env it h).bind fun s h1 => match s.len h1 with
    | some n => compN (fun x h => match assignT tg x h (wipeT tg env) with
        | some σ' => (ev M σ' e h).bind fun y h4 => .ok (some y) h4
        | none => .bad) s n 0 [] h1
    | none => .bad) Q := F
  clear F
  show PR (evI M env it h) _ _
  revert F2
  cases evI M env it h with
  | bad => exact fun F => F
  | ex c fs h1 => exact fun F => F
  | ok s h1 =>
    intro F ι1 H1 J ex R1 sk
    have F := FinL.mono ex R1 F
    have F : FinL K T W σ ι1 G H1 (match s.len h1 with
      | some n => compN (fun x h => match assignT tg x h (wipeT tg env) with
          | some σ' => (ev M σ' e h).bind fun y h4 => .ok (some y) h4
          | none => .bad) s n 0 [] h1
      | none => .bad) Q := F
    cases hl : s.len h1 with
    | none => rw [hl] at F; exact F.elim
    | some n =>
      rw [hl] at F
      refine comp_core (env := env) R1 sk (E.mono ex) F ?_
      intro ι2 G2 H2 h2 x v o h3 R2 E2 rv hb Ky Kn hy hn
      simp only at hb
      cases ha : assignT tg x h2 (wipeT tg env) with
      | none => rw [ha] at hb; cases hb
      | some σ' =>
        rw [ha] at hb
        simp only at hb
        refine tg_val R2 E2 rv ha fun σ2 E3 hw => ⟨by rw [hw tg.slots fun i hi => hi, wipe_wipe], ?_⟩
        refine iteT (B := Kn H2) ?_
        refine ⟨ι2, G2, h2, σ', R2, E3, ?_⟩
        show Fin K T (RV K) WF σ2 ι2 G2 H2 (ev M σ' e h2) _
        revert hb
        cases ev M σ' e h2 with
        | bad => exact fun z => by cases z
        | ex c fs h5 => exact fun z => by cases z
        | ok y h5 =>
          intro hb ι4 H4 w e4 R4 rw
          cases hb
          exact hy y rfl ι4 H4 w e4 R4 rw

/-! ### fields -/
theorem rf_lookup {nm : Nat → Str} (inj : ∀ f g, nm f = nm g → f = g) {f : Nat} : ∀ {gs : List (Str × V)} {fs : List (Nat × Val)}, RF K nm ι G H gs fs →
    (∀ x, fs.lookup f = some x → ∃ v, gs.lookup (nm f) = some v ∧ RV K ι G H v x) ∧ (fs.lookup f = none → gs.lookup (nm f) = none)
  | _, _, .nil => ⟨fun _ e => (by cases e), fun _ => rfl⟩
  | _, _, .cons (f := g) r rs => by
    have ih := rf_lookup inj (f := f) rs
    by_cases z : f = g
    · subst z
      constructor
      · intro x e
        simp [List.lookup_cons] at e
        subst e
        exact ⟨_, by simp [List.lookup_cons], r⟩
      · intro e; simp [List.lookup_cons] at e
    · have z1 : (f == g) = false := by simpa using z
      have z2 : (nm f == nm g) = false := by
        have : nm f ≠ nm g := fun q => z (inj f g q)
        simpa using this
      constructor
      · intro x e
        rw [List.lookup_cons, z1] at e
        rw [List.lookup_cons, z2]
        exact ih.1 x e
      · intro e
        rw [List.lookup_cons, z1] at e
        rw [List.lookup_cons, z2]
        exact ih.2 e
theorem rf_put {nm : Nat → Str} (inj : ∀ f g, nm f = nm g → f = g) {f : Nat} {v : V} {x : Val} (q : RV K ι G H v x) : ∀ {gs : List (Str × V)} {fs : List (Nat × Val)}, RF K nm ι G H gs fs →
    RF K nm ι G H (putF (nm f) v gs) (putN f x fs)
  | _, _, .nil => .cons q .nil
  | _, _, .cons (f := g) (v := v') r rs => by
    unfold putF putN
    by_cases z : g = f
    · subst z
      rw [if_pos rfl, if_pos rfl]
      exact .cons q rs
    · rw [if_neg z, if_neg fun e => z (inj g f e)]
      exact .cons r (rf_put inj q rs)
theorem rf_len {nm : Nat → Str} : ∀ {gs : List (Str × V)} {fs : List (Nat × Val)}, RF K nm ι G H gs fs → gs.length = fs.length
  | _, _, .nil => rfl
  | _, _, .cons _ rs => by simp [rf_len rs]
/-- an instance at a logical address -/
theorem ins_ok {a : Nat} {v : V} {c : Nat} {fs : List (Nat × Val)} (R : Rep K T ι G H h) (r : RV K ι G H v (.ref a)) (e : h[a]? = some (.ins c fs)) :
    ∃ p dx gs, v = .ref p ∧ ι a = some p ∧ H p = some (.ins (T.ca c) dx gs) ∧ RF K T.nm ι G H gs fs ∧ T.has c = true := by
  cases r with
  | ref hi =>
    cases R.obj hi e with
    | ins hp rs t => exact ⟨_, _, _, rfl, hi, hp, rs, t⟩
theorem lstb_ok {a : Nat} {v : V} {xs : List Val} (R : Rep K T ι G H h) (r : RV K ι G H v (.ref a)) (e : h[a]? = some (.lst xs)) :
    ∃ p vs, v = .ref p ∧ ι a = some p ∧ H p = some (.lst vs) ∧ RVs K ι G H vs xs := by
  cases r with
  | ref hi =>
    cases R.obj hi e with
    | lst hp rs => exact ⟨_, _, rfl, hi, hp, rs⟩
/-- what is known of the classes: their attributes -/
structure ClsOk (K : PySem.W.Frag) (T : Tie) (P : Prog) : Prop where
  inj : ∀ f g, T.nm f = T.nm g → f = g
  cls : ∀ c, T.has c = true → Cls K (T.ca c)
  att : ∀ c f, T.has c = true → P.attr c f = true → NoAttr K (T.ca c) (T.nm f)
theorem fld_raw {P : Prog} (C : ClsOk K T P) {f : Nat} {x z : Val} {v : V} (R : Rep K T ι G H h) (rv : RV K ι G H v x) (hz : fldVal P h x f = some z) :
    ∃ a c dx fs u, v = .ref a ∧ H a = some (.ins (T.ca c) dx fs) ∧ Cls K (T.ca c) ∧ NoAttr K (T.ca c) (T.nm f) ∧ fs.lookup (T.nm f) = some u ∧ RV K ι G H u z ∧ clsV x h = some c := by
  cases x with
  | ref a =>
    simp only [fldVal] at hz
    split at hz
    · rename_i c fs ho
      split at hz
      · rename_i ha
        obtain ⟨p, dx, gs, rfl, hi, hp, rf, t⟩ := ins_ok R rv ho
        obtain ⟨u, hu, ru⟩ := (rf_lookup C.inj rf).1 z hz
        exact ⟨p, c, dx, gs, u, rfl, hp, C.cls c t, C.att c f t ha, hu, ru, by simp only [clsV, ho]⟩
      · cases hz
    · cases hz
  | _ => cases hz
/-- o.f -/
theorem fld_val {P : Prog} (C : ClsOk K T P) {f : Nat} {x : Val} {v : V} {Q : VK} (R : Rep K T ι G H h) (rv : RV K ι G H v x)
    (F : Fin K T (RV K) W σ ι G H (ofOpt (fldVal P h x f) h) Q) : ∃ a C dx fs z, v = .ref a ∧ H a = some (.ins C dx fs) ∧ Cls K C ∧ NoAttr K C (T.nm f) ∧ fs.lookup (T.nm f) = some z ∧ Q z H := by
  obtain ⟨z, hz, F2⟩ := F.ofOpt
  obtain ⟨a, c, dx, fs, u, h1, h2, h3, h4, h5, h6, _⟩ := fld_raw C R rv hz
  exact ⟨a, _, dx, fs, u, h1, h2, h3, h4, h5, F2.ok R h6⟩
/-- o.f = v -/
theorem setFld_val {P : Prog} (C : ClsOk K T P) {f : Nat} {x y : Val} {v w : V} {h2 : LH} (R : Rep K T ι G H h) (rv : RV K ι G H v x) (rw : RV K ι G H w y)
    (e : setFld P x y f h = some h2) : ∃ a c dx fs, v = .ref a ∧ H a = some (.ins (T.ca c) dx fs) ∧ Cls K (T.ca c) ∧ NoAttr K (T.ca c) (T.nm f) ∧ fs.length < 1000 ∧ clsV x h = some c ∧ Ext ι H ι (upd H a (.ins (T.ca c) dx (putF (T.nm f) w fs))) ∧ Rep K T ι G (upd H a (.ins (T.ca c) dx (putF (T.nm f) w fs))) h2 := by
  cases x with
  | ref a =>
    simp only [setFld] at e
    split at e
    · rename_i c fs ho
      split at e
      · rename_i hl
        cases e
        obtain ⟨p, dx, gs, rfl, hi, hp, rf, t⟩ := ins_ok R rv ho
        refine ⟨p, c, dx, gs, rfl, hp, C.cls c t, C.att c f t hl.2, by rw [rf_len rf]; exact hl.1, by simp only [clsV, ho], R.setExt hi, R.set hi (.ins upd_same ((rf_put C.inj rw rf).mono (R.setExt hi)) t)⟩
      · cases e
    · cases e
  | _ => cases e
/-- o[i] = v -/
theorem setSub_val {x i y : Val} {v k w : V} {h2 : LH} {Q : Hp → Prop} (R : Rep K T ι G H h) (rv : RV K ι G H v x) (rk : RV K ι G H k i) (rw : RV K ι G H w y) (e : setSub x i y h = some h2)
    (q : ∀ H', Ext ι H ι H' → Rep K T ι G H' h2 → Q H') : rSetL v k w H Q := by
  cases x with
  | ref a =>
    simp only [setSub] at e
    split at e
    · rename_i xs ho
      split at e
      · rename_i n
        obtain ⟨j, hj, rfl⟩ := Option.map_eq_some_iff.mp e
        obtain ⟨p, vs, rfl, hi, hp, rs⟩ := lstb_ok R rv ho
        cases rk
        exact ⟨p, vs, n, j, rfl, rfl, hp, by rw [rs.length]; exact hj, q _ (R.setExt hi) (R.set hi (.lst upd_same ((rs.set rw j).mono (R.setExt hi))))⟩
      · cases e
    · cases e
  | _ => cases e
end
end G

set_option maxHeartbeats 4000000
/-! GSem5: calls, methods, instances made; statements. -/
namespace G
open PySem PySem.Spec PyProof.Rows L2
/-! ### side conditions by the shape of an expression -/
def noStar : Expr → Bool
  | .Starred .. => false
  | _ => true
theorem star_ok {env : PySem.Env} {e : Expr} {es : List Expr} (h : noStar e = true) : starEach (e :: es) env = (false, eval e env) :: starEach es env := by
  cases e <;> first | rfl | cases h
theorem stars_ok {env : PySem.Env} {pos : Pos} : ∀ {es : List Expr}, es.all noStar = true → (backTo pos (starEach es env)).any (·.1) = false
  | [], _ => rfl
  | e :: es, h => by
    rw [List.all_cons, Bool.and_eq_true] at h
    rw [star_ok h.1]
    show (false || (backTo pos (starEach es env)).any (·.1)) = false
    rw [stars_ok h.2]
    rfl
theorem stars_len {env : PySem.Env} {pos : Pos} : ∀ {es : List Expr}, es.all noStar = true → (backTo pos (starEach es env)).all (!·.1) = true
  | [], _ => rfl
  | e :: es, h => by
    rw [List.all_cons, Bool.and_eq_true] at h
    rw [star_ok h.1]
    show (!false && (backTo pos (starEach es env)).all (!·.1)) = true
    rw [stars_len h.2]
    rfl
/-- no call of a name without arguments (super) -/
def noSuper : Expr → Bool
  | .Call (.Name _ _) [] [] _ => false
  | _ => true
theorem base_ok {env : PySem.Env} {e : Expr} {f : Str} {t : Sem Value} (h : noSuper e = true) : attributeBase e f env t = t := by
  unfold attributeBase
  split
  · cases h
  · rfl
def noSl : Expr → Bool
  | .Slice .. => false
  | _ => true
theorem plainIx_ok {b : Expr} (h : noSl b = true) : PlainIx b := fun o i => by
  unfold subscripted
  cases b <;> first | rfl | cases h
def noComp : Expr → Bool
  | .ListComp .. | .SetComp .. | .DictComp .. => false
  | _ => true
theorem swaps_ok {env : PySem.Env} {e : Expr} {t : Option Expr} {l : Nat} (h : noComp e = true) : swapsWith e t l env = pure false := by
  unfold swapsWith
  cases e <;> first | rfl | cases h
def noSet : Expr → Bool
  | .Set .. => false
  | _ => true
theorem folded_ok {env : PySem.Env} {e : Expr} (h : noSet e = true) : ∀ x, foldedSetIterable e env x = pure x := fun x => by
  unfold foldedSetIterable
  cases e <;> first | rfl | cases h
theorem marks_ok {op : CmpOp} {e : Expr} (h : noSet e = true) : behindInMarks op e = false := by
  cases e <;> first | rfl | cases h
/-- its truth is its value's -/
def plainTest : Expr → Bool
  | .UnaryOp .Not _ _ | .BoolOp .. | .IfExp .. | .Compare .. => false
  | _ => true
theorem plainTest_ok {env : PySem.Env} {e : Expr} (h : plainTest e = true) : ∀ whole, PySem.isTrue e env whole = (do let v ← whole; standAt e.pos; holding [v] (truthy v)) := fun whole => by
  cases e with
  | UnaryOp op x p => cases op <;> first | (cases h; done) | (unfold PySem.isTrue; rfl)
  | BoolOp => cases h
  | IfExp => cases h
  | Compare => cases h
  | _ => unfold PySem.isTrue; rfl

/-- a def's promise by the evaluator -/
def spC (K : PySem.W.Frag) (T : Tie) (np : Nat) (call : List Val → LH → Res Val) : Sp := fun vs H Q E =>
  ∃ ι G h xs, Rep K T ι G H h ∧ RVs K ι G H vs xs ∧ xs.length = np ∧
    PR (call xs h) (fun x h' => ∀ ι' H' v, Ext ι H ι' H' → Rep K T ι' G H' h' → RV K ι' G H' v x → Q v H')
      (fun c fs h' => ∀ ι' H' cls d, Ext ι H ι' H' → Rep K T ι' G H' h' → RX K T ι' G H' cls d c fs → E cls d H')
theorem spC.len {K : PySem.W.Frag} {T : Tie} {np : Nat} {call : List Val → LH → Res Val} {ps : List Str} (hp : ps.length = np) : ∀ vs H Q E, spC K T np call vs H Q E → vs.length = ps.length := by
  rintro vs H Q E ⟨ι, G, h, xs, _, r, l, _⟩
  rw [r.length, l, hp]
section
variable {X : Cx} {T : Tie} {W : WX} {e o : Expr} {es : List Expr} {ge : Env → LH → Res Val} {gs : Env → LH → Res (List Val)} {f : Addr} {fd : FuncData} {ps : List Str} {np k : Nat} {call : List Val → LH → Res Val} {pos p apos : Pos}
/-- behind the arguments, the call -/
theorem args_val {σ : L2.St} {H : Hp} {Q : VK} (h : tE X.K T W (fun env h => (gs env h).bind fun vs h1 => if vs.length = np then call vs h1 else .bad) σ H Q) : tA X.K T W gs σ H fun vs H1 => spC X.K T np call vs H1 Q (WE W σ) := by
  obtain ⟨ι, G, h, env, Rp, E, F⟩ := h
  refine ⟨ι, G, h, env, Rp, E, (Fin.bind (R := RVs X.K) F).imp ?_⟩
  rintro vs H1 ⟨ι1, h1, xs, e1, R1, rv, F1⟩
  split at F1
  · rename_i hl
    exact ⟨ι1, G, h1, xs, R1, rv, hl, F1⟩
  · exact F1.elim
/-- the same without arguments -/
theorem args_nil {σ : L2.St} {H : Hp} {Q : VK} (h : tE X.K T W (fun _ h => if 0 = np then call [] h else .bad) σ H Q) : spC X.K T np call [] H Q (WE W σ) := by
  obtain ⟨ι, G, h, env, Rp, E, F⟩ := h
  simp only at F
  split at F
  · rename_i hl
    exact ⟨ι, G, h, [], Rp, .nil, hl, F⟩
  · exact F.elim
/-- f(e, ..) -/
theorem pe_callG {x : Str} (F : FnOk X.prog X.w X.K X.mg X.base (L2.CX X.prog X.w) k f fd ps (spC X.K T np call)) (hr : Room k X.A) (hg : Gl X x) (hm : X.mg x = some (.ref f)) (hk : PySem.W.keepIn X.K (.ref f) = true) (hb : Binds X.K fd ps []) (tk : Takes X W)
    (ha : PA X (e :: es) (tA X.K T W gs)) (h1 : noStar e = true) (hst : es.all noStar = true) (hdb : (x == ("__debug__" : Str)) = false) :
    PE X (.Call (.Name x p) (e :: es) [] pos) (tE X.K T W fun env h => (gs env h).bind fun vs h1 => if vs.length = np then call vs h1 else .bad) := by
  refine ⟨fun pins s σ H Q I h => ?_⟩
  refine wpAny_Call_Name_kw (ld_glob I hg hm ?_ hdb)
  refine PySem.W.callWith_K (h₀ := X.base) I.ok.mod.kin hk (thn (ha.run pos pins s σ H _ I (args_val h)) fun us s1 ⟨vs, H1, I1, r, q⟩ => ⟨I1.kIn, ?_⟩) (star_ok h1) (stars_ok hst)
  exact run_fnS F hr hb (passAt tk σ) I1 r q
theorem pe_callG0 {x : Str} (F : FnOk X.prog X.w X.K X.mg X.base (L2.CX X.prog X.w) k f fd ps (spC X.K T np call)) (hr : Room k X.A) (hg : Gl X x) (hm : X.mg x = some (.ref f)) (hk : PySem.W.keepIn X.K (.ref f) = true) (hb : Binds X.K fd ps []) (tk : Takes X W) (hdb : (x == ("__debug__" : Str)) = false) :
    PE X (.Call (.Name x p) [] [] pos) (tE X.K T W fun _ h => if 0 = np then call [] h else .bad) := by
  refine ⟨fun pins s σ H Q I h => ?_⟩
  refine wpAny_Call_Name_kw (ld_glob I hg hm ?_ hdb)
  exact PySem.W.callWith_K0 I.kIn hk (run_fnS (us := []) F hr hb (passAt tk σ) I .nil (args_nil h))
/-- what keywords bind -/
def KBind (K : PySem.W.Frag) (fd : FuncData) (ps ks : List Str) : Prop := ∀ (s : Shared) (us ws : List Value), K.In s.heap → ws.length = ks.length → (us ++ ws).length = ps.length → BindsTo s fd ⟨us, ks.zip ws⟩ (ps.zip (us ++ ws))
theorem run_fnKS {sp : Sp} {E : L2.St → XK} {pins : List (Addr × PySem.Obj)} {σ : L2.St} {H : Hp} {s : Shared} {Q : VK} {us ws : List Value} {vs zs : List V} {ks : List Str} (F : FnOk X.prog X.w X.K X.mg X.base (L2.CX X.prog X.w) k f fd ps sp) (hr : Room k X.A) (hb : KBind X.K fd ps ks) (hx : PassesAt (L2.CX X.prog X.w) X σ (E σ))
    (I : Inv X pins σ H s) (r : Vals vs us) (rz : Vals zs ws) (hks : ws.length = ks.length) (h : sp (vs ++ zs) H Q (E σ)) : wpAny (model X.prog X.w) X.A (PySem.call (.ref f) us (ks.zip ws)) (EP X pins σ Q) X.xe s := by
  have r2 : Vals (vs ++ zs) (us ++ ws) := r.append rz
  have hl : (us ++ ws).length = ps.length := by rw [← r2.length]; exact F.len _ _ _ _ h
  refine wpAny_call (codeAny_mono (F.run X.A X.stack s H ⟨us, ks.zip ws⟩ (us ++ ws) (vs ++ zs) Q (E σ) hr I.env0 (hb s us ws I.kIn hks hl) r2 h) fun r s' hq => ?_)
  cases r with
  | error e => exact hx pins H s e s' I hq
  | ok fl =>
    cases fl with
    | ret u => exact I.after hq
    | next => exact False.elim hq
    | brk => exact False.elim hq
    | cont => exact False.elim hq
theorem kw_all {env : PySem.Env} {pos : Pos} : ∀ {kws : List Keyword} {ks : List Str}, kws.map (·.arg) = ks.map some → (backToKw pos (keywordEach kws env)).all (·.1.isSome) = true ∧ (backToKw pos (keywordEach kws env)).filterMap (·.1) = ks ∧ (backToKw pos (keywordEach kws env)).any (·.1.isNone) = false ∧ (backToKw pos (keywordEach kws env)).length = ks.length
  | [], [], _ => ⟨rfl, rfl, rfl, rfl⟩
  | [], _ :: _, h => by cases h
  | _ :: _, [], h => by cases h
  | ⟨a, v, p⟩ :: r, n :: ks, h => by
    simp only [List.map_cons, List.cons.injEq] at h
    obtain ⟨rfl, h⟩ := h
    obtain ⟨h1, h2, h3, h4⟩ := kw_all (env := env) (pos := pos) h
    refine ⟨?_, ?_, ?_, ?_⟩
    · show (true && (backToKw pos (keywordEach r env)).all (·.1.isSome)) = true
      rw [h1]; rfl
    · show n :: (backToKw pos (keywordEach r env)).filterMap (·.1) = _
      rw [h2]
    · show (false || (backToKw pos (keywordEach r env)).any (·.1.isNone)) = false
      rw [h3]; rfl
    · show (backToKw pos (keywordEach r env)).length + 1 = _
      rw [h4]; rfl
/-- f(e, .., k = v, ..) -/
theorem pe_callKG {x : Str} {kws : List Keyword} {ks : List Str} {gk : Env → LH → Res (List Val)} (F : FnOk X.prog X.w X.K X.mg X.base (L2.CX X.prog X.w) k f fd ps (spC X.K T np call)) (hr : Room k X.A) (hg : Gl X x) (hm : X.mg x = some (.ref f)) (hk : PySem.W.keepIn X.K (.ref f) = true) (hb : KBind X.K fd ps ks) (tk : Takes X W)
    (ha : PA X (e :: es) (tA X.K T W gs)) (hkw : PK X kws (tA X.K T W gk)) (h1 : noStar e = true) (hst : es.all noStar = true) (hks : kws.map (·.arg) = ks.map some) (hdb : (x == ("__debug__" : Str)) = false) :
    PE X (.Call (.Name x p) (e :: es) kws pos) (tE X.K T W fun env h => (gs env h).bind fun vs h1 => (gk env h1).bind fun ws h2 => if ws.length = ks.length then if (vs ++ ws).length = np then call (vs ++ ws) h2 else .bad else .bad) := by
  refine ⟨fun pins s σ H Q I h => ?_⟩
  obtain ⟨k1, k2, k3, k4⟩ := kw_all (env := X.env) (pos := pos) hks
  refine wpAny_Call_Name_kw (ld_glob I hg hm ?_ hdb)
  have h2 : tA X.K T W gs σ H fun vs H1 => tA X.K T W gk σ H1 fun zs H2 => zs.length = ks.length ∧ spC X.K T np call (vs ++ zs) H2 Q (WE W σ) := by
    obtain ⟨ι, G, h, env, Rp, E, F⟩ := h
    refine ⟨ι, G, h, env, Rp, E, (Fin.bind (R := RVs X.K) F).imp ?_⟩
    rintro vs H1 ⟨ι1, h1, xs, e1, R1, rv, F1⟩
    refine ⟨ι1, G, h1, env, R1, E.mono e1, (Fin.bind (R := RVs X.K) F1).imp ?_⟩
    rintro zs H2 ⟨ι2, h2, ys, e2, R2, rz, F2⟩
    split at F2
    · rename_i hk
      split at F2
      · rename_i hl
        exact ⟨by rw [rz.length]; exact hk, ι2, G, h2, xs ++ ys, R2, (rv.mono e2).append rz, hl, F2⟩
      · exact F2.elim
    · exact F2.elim
  refine PySem.W.callWith_KW (h₀ := X.base) I.ok.mod.kin hk k1 (thn (ha.run pos pins s σ H _ I h2) fun us s1 ⟨vs, H1, I1, r, q⟩ => ?_) ?_ (star_ok h1)
  · refine thn (hkw.run pos pins s1 σ H1 _ I1 q) fun ws s2 ⟨zs, H2, I2, rz, hz, q2⟩ => ⟨I2.kIn, ?_⟩
    rw [k2]
    exact run_fnKS F hr hb (passAt tk σ) I2 r rz (by rw [← rz.length]; exact hz) q2
  · rw [k3, stars_ok (by rw [List.all_cons, h1, hst]; rfl)]; rfl

/-! ### instances made -/
/-- C(e, ..) by values; what is raised is wished for at the slots -/
theorem run_makeS {sp : Sp} {C : Addr} {pins : List (Addr × PySem.Obj)} {σ : L2.St} {H : Hp} {s : Shared} {Q : VK} {us : List Value} {vs : List V} (M : Mk X.K C f) (F : FnOk X.prog X.w X.K X.mg X.base (L2.CX X.prog X.w) k f fd ps sp) (hr : Room (k + 1) X.A) (hb : Binds X.K fd ps [])
    (tk : Takes X W) (I : Inv X pins σ H s) (r : Vals vs us)
    (h : ∀ x dx, H x = none → H dx = none → dx ≠ x → sp (.ref x :: vs) (upd (upd H dx (.own x)) x (.ins C dx [])) (fun v H2 => v = .non ∧ Q (.ref x) H2) (WE W σ)) :
    wpAny (model X.prog X.w) X.A (PySem.call (.ref C) us) (EP X pins σ Q) X.xe s := by
  have hq := h (s.heap.objs.size + 1) s.heap.objs.size (I.hok.fresh (Nat.le_succ _)) (I.hok.fresh (Nat.le_refl _)) (Nat.ne_of_lt (Nat.lt_succ_self _))
  have I2 := Inv.made (C := C) I
  have r2 : Vals (V.ref (s.heap.objs.size + 1) :: vs) (Value.ref (s.heap.objs.size + 1) :: us) := .cons rfl r
  have hl : (Value.ref (s.heap.objs.size + 1) :: us).length = ps.length := by
    have e := r2.length
    rw [F.len _ _ _ _ hq] at e
    exact e.symm
  have hbb := hb { s with heap := (s.heap.push PySem.W.emptyDict).push (PySem.W.instObj C s.heap.objs.size) } (Value.ref (s.heap.objs.size + 1) :: us) I2.kIn (by rw [List.append_nil]; exact hl)
  rw [List.append_nil] at hbb
  refine wpAny_call (make_map (f := f) I.kIn M.makes M.init (beq_iff_eq.mp M.fn) (codeAny_mono (F.run _ X.stack _ _ ⟨Value.ref (s.heap.objs.size + 1) :: us, []⟩ (Value.ref (s.heap.objs.size + 1) :: us) _ _ (WE W σ) (hr.make C us [])
    (I2.env0.make C us []) hbb r2 hq) fun r s' hq' => ?_))
  cases r with
  | error e => exact passAt tk σ pins _ _ e s' I2 hq'
  | ok fl =>
    cases fl with
    | ret u =>
      obtain ⟨v, H', I3, rv, ev, q3⟩ := I2.after hq'
      subst ev
      exact ⟨rv, ⟨V.ref (s.heap.objs.size + 1), H', I3, rfl, q3⟩⟩
    | next => exact False.elim hq'
    | brk => exact False.elim hq'
    | cont => exact False.elim hq'
/-- logically: the new address, then the def -/
theorem make_val {c : Nat} {σ : L2.St} {ι : Io} {G : Gh} {H : Hp} {h : LH} {xs : List Val} {vs : List V} {Q : VK} {call : List Val → LH → Res Val} (ht : T.has c = true) (Rp : Rep X.K T ι G H h) (rv : RVs X.K ι G H vs xs) (hl : (xs.length + 1) = np)
    (F : Fin X.K T (RV X.K) W σ ι G H (match call (.ref h.length :: xs) (h ++ [.ins c []]) with
      | .ok .non h' => .ok (.ref h.length) h'
      | .ok _ _ => .bad
      | .ex c fs h' => .ex c fs h'
      | .bad => .bad) Q) :
    ∀ x dx, H x = none → H dx = none → dx ≠ x → spC X.K T np call (.ref x :: vs) (upd (upd H dx (.own x)) x (.ins (T.ca c) dx [])) (fun v H2 => v = .non ∧ Q (.ref x) H2) (WE W σ) := by
  intro x dx hx hdx ne
  have R1 : Rep X.K T ι G (upd H dx (.own x)) h := Rp.laid hdx
  have E1 : Ext ι H ι (upd H dx (.own x)) := Rp.lay hdx
  have hx1 : upd H dx (.own x) x = none := by rw [upd_ne (Ne.symm ne)]; exact hx
  have k : ∀ q u, upd H dx (.own x) q = some u → q ≠ x → upd (upd H dx (.own x)) x (.ins (T.ca c) dx []) q = some u := fun q u hq hn => by rw [upd_ne hn]; exact hq
  have R2 := R1.new hx1 k (o := .ins c []) (.ins upd_same .nil ht)
  have E2 := R1.newExt hx1 k
  have E12 := E1.trans E2
  refine ⟨_, G, _, .ref h.length :: xs, R2, .cons (.ref (by unfold ins; simp)) (rv.mono E12), by simpa using hl, ?_⟩
  revert F
  cases call (.ref h.length :: xs) (h ++ [.ins c []]) with
  | bad => exact fun F => F
  | ex c' fs h' => exact fun F ι' H' cls d e rp rx => F ι' H' cls d (E12.trans e) rp rx
  | ok v h' =>
    intro F ι' H' w e rp rw
    cases rw with
    | non => exact ⟨rfl, F ι' H' _ (E12.trans e) rp (.ref (e.mono _ _ (by unfold ins; simp)))⟩
    | _ => exact F.elim
/-- C(e, ..), C() -/
theorem pe_makeG {x : Str} {c : Nat} (M : Mk X.K (T.ca c) f) (ht : T.has c = true) (F : FnOk X.prog X.w X.K X.mg X.base (L2.CX X.prog X.w) k f fd ps (spC X.K T np call)) (hr : Room (k + 1) X.A) (hg : Gl X x) (hm : X.mg x = some (.ref (T.ca c))) (hb : Binds X.K fd ps []) (tk : Takes X W)
    (ha : PA X (e :: es) (tA X.K T W gs)) (h1 : noStar e = true) (hst : es.all noStar = true) (hdb : (x == ("__debug__" : Str)) = false) :
    PE X (.Call (.Name x p) (e :: es) [] pos) (tE X.K T W fun env h => (gs env h).bind fun vs h1 => if vs.length + 1 = np then (match call (.ref h1.length :: vs) (h1 ++ [.ins c []]) with
      | .ok .non h' => .ok (.ref h1.length) h'
      | .ok _ _ => .bad
      | .ex c fs h' => .ex c fs h'
      | .bad => .bad) else .bad) := by
  refine ⟨fun pins s σ H Q I h => ?_⟩
  refine wpAny_Call_Name_kw (ld_glob I hg hm ?_ hdb)
  have h2 : tA X.K T W gs σ H fun vs H1 => ∀ x dx, H1 x = none → H1 dx = none → dx ≠ x → spC X.K T np call (.ref x :: vs) (upd (upd H1 dx (.own x)) x (.ins (T.ca c) dx [])) (fun v H2 => v = .non ∧ Q (.ref x) H2) (WE W σ) := by
    obtain ⟨ι, G, h, env, Rp, E, F⟩ := h
    refine ⟨ι, G, h, env, Rp, E, (Fin.bind (R := RVs X.K) F).imp ?_⟩
    rintro vs H1 ⟨ι1, h1, xs, e1, R1, rv, F1⟩
    split at F1
    · rename_i hl
      exact make_val ht R1 rv hl F1
    · exact F1.elim
  refine PySem.W.callWith_K (h₀ := X.base) I.ok.mod.kin M.kp (thn (ha.run pos pins s σ H _ I h2) fun us s1 ⟨vs, H1, I1, r, q⟩ => ⟨I1.kIn, ?_⟩) (star_ok h1) (stars_ok hst)
  exact run_makeS M F hr hb tk I1 r q
theorem pe_makeG0 {x : Str} {c : Nat} (M : Mk X.K (T.ca c) f) (ht : T.has c = true) (F : FnOk X.prog X.w X.K X.mg X.base (L2.CX X.prog X.w) k f fd ps (spC X.K T np call)) (hr : Room (k + 1) X.A) (hg : Gl X x) (hm : X.mg x = some (.ref (T.ca c))) (hb : Binds X.K fd ps []) (tk : Takes X W)
    (hdb : (x == ("__debug__" : Str)) = false) :
    PE X (.Call (.Name x p) [] [] pos) (tE X.K T W fun _ h => if 0 + 1 = np then (match call [.ref h.length] (h ++ [.ins c []]) with
      | .ok .non h' => .ok (.ref h.length) h'
      | .ok _ _ => .bad
      | .ex c fs h' => .ex c fs h'
      | .bad => .bad) else .bad) := by
  refine ⟨fun pins s σ H Q I h => ?_⟩
  refine wpAny_Call_Name_kw (ld_glob I hg hm ?_ hdb)
  obtain ⟨ι, G, h, env, Rp, E, F1⟩ := h
  simp only at F1
  split at F1
  · rename_i hl
    exact PySem.W.callWith_K0 I.kIn M.kp (run_makeS (us := []) M F hr hb tk I .nil (make_val ht Rp .nil hl F1))
  · exact F1.elim

/-! ### methods -/
theorem mcall_ok {m : Str} {env : PySem.Env} (h1 : noSuper o = true) (hl : (apos.endLine == pos.line) = true) (hst : es.all noStar = true) (hn : es.length < 30) :
    eval (.Call (.Attribute o m apos) es [] pos) env = (do
      let ov ← eval o env
      standAt apos.atName
      let (f, first) ← holding [ov] (getMethod ov m (plainOf o env))
      callWith pos f first (backTo pos (starEach es env)) (backToKw pos (keywordEach [] env))) := by
  have e1 : eval (.Call (.Attribute o m apos) es [] pos) env = (do
      let ov ← attributeBase o m env (eval o env)
      standAt apos.atName
      methodCall o m apos pos env ov (es.length + ([] : List Keyword).length) (backTo pos (starEach es env)) (backToKw pos (keywordEach [] env))) := by
    first | rfl | (unfold eval; rfl)
  rw [e1, base_ok h1]
  have hf : methodCallForm (es.length + ([] : List Keyword).length) (backTo pos (starEach es env)) (backToKw pos (keywordEach [] env)) = true := by
    unfold methodCallForm
    rw [stars_len hst]
    show (true && true && decide (es.length + 0 + 0 < 30)) = true
    simp [hn]
  simp only [mcall_line hf hl]
/-- what is known of the methods -/
structure MethOk (X : Cx) (T : Tie) (P : Prog) (call : Nat → List Val → LH → Res Val) (k : Nat) (fa : Nat → Addr) : Prop where
  cls : ∀ c, T.has c = true → Cls X.K (T.ca c)
  inj : ∀ f g, T.nm f = T.nm g → f = g
  meth : ∀ c m f, T.has c = true → P.meth c m = some f → Meth X.K (T.ca c) (T.nm m) (fa f)
  fn : ∀ f d, P.fn f = some d → ∃ fd ps, FnOk X.prog X.w X.K X.mg X.base (L2.CX X.prog X.w) k (fa f) fd ps (spC X.K T d.np (call f)) ∧ Binds X.K fd ps [] ∧ PySem.W.keepIn X.K (.ref (fa f)) = true
  ar : ∀ f vs h, (∀ d, P.fn f = some d → vs.length ≠ d.np) → call f vs h = .bad
theorem find_ok {P : Prog} {calls : Nat → List Val → LH → Res Val} {fa : Nat → Addr} (MO : MethOk X T P calls k fa) {ι : Io} {G : Gh} {H : Hp} {h : LH} {x : Val} {v : V} {m g : Nat} (R : Rep X.K T ι G H h) (rv : RV X.K ι G H v x) (e : findM P x m h = some g) :
    ∃ a C dx fs, v = .ref a ∧ H a = some (.ins C dx fs) ∧ Cls X.K C ∧ Meth X.K C (T.nm m) (fa g) ∧ fs.lookup (T.nm m) = none := by
  cases x with
  | ref a =>
    simp only [findM] at e
    split at e
    · rename_i c fs ho
      split at e
      · rename_i hn
        obtain ⟨p, dx, gs, rfl, hi, hp, rf, t⟩ := ins_ok R rv ho
        exact ⟨p, _, dx, gs, rfl, hp, MO.cls c t, MO.meth c m g t e, (rf_lookup MO.inj rf).2 hn⟩
      · cases e
    · cases e
  | _ => cases e
theorem pe_mthG {P : Prog} {calls : Nat → List Val → LH → Res Val} {fa : Nat → Addr} {m : Nat} (MO : MethOk X T P calls k fa) (hr : Room k X.A) (tk : Takes X W) (ho : PE X o (tE X.K T W ge)) (ha : PA X es (tA X.K T W gs)) (hgs : es = [] → gs = fun _ h => .ok [] h)
    (h1 : noSuper o = true) (hl : (apos.endLine == pos.line) = true) (hst : es.all noStar = true) (hn : es.length < 30) :
    PE X (.Call (.Attribute o (T.nm m) apos) es [] pos) (tE X.K T W fun env h => (ge env h).bind fun x h1 => match findM P x m h1 with
      | some f => (gs env h1).bind fun vs h2 => calls f (x :: vs) h2
      | none => .bad) := by
  refine ⟨fun pins s σ H Q I h => ?_⟩
  refine methcall_of ho I ?_ (mcall_ok h1 hl hst hn)
  obtain ⟨ι, G, h, env, Rp, E, F⟩ := h
  refine ⟨ι, G, h, env, Rp, E, (Fin.bind (R := RV X.K) F).imp ?_⟩
  rintro v H1 ⟨ι1, h1, x, e1, R1, rv, F1⟩
  split at F1
  · rename_i g hg
    obtain ⟨a, C, dx, fs, rfl, hp, hc, hm, hno⟩ := find_ok MO R1 rv hg
    refine ⟨a, C, dx, fs, _, rfl, hp, hc, hm, hno, fun s1 I1 => ?_⟩
    have E1 := E.mono e1
    -- the call with its object ahead
    have fin : ∀ {us : List Value} {vs : List V} {s2 : Shared} {H2 : Hp} {ι2 : Io} {h2 : LH} {xs : List Val}, Inv X pins σ H2 s2 → Vals vs us → Ext ι1 H1 ι2 H2 → Rep X.K T ι2 G H2 h2 → RVs X.K ι2 G H2 vs xs → Fin X.K T (RV X.K) W σ ι2 G H2 (calls g (x :: xs) h2) Q →
        wpAny (model X.prog X.w) X.A (PySem.call (.ref (fa g)) (.ref a :: us)) (EP X pins σ Q) X.xe s2 := by
      intro us vs s2 H2 ι2 h2 xs I2 r e2 R2 rs F2
      by_cases hd : ∃ d, P.fn g = some d ∧ (x :: xs).length = d.np
      · obtain ⟨d, hd, hl⟩ := hd
        obtain ⟨fd, ps, F, hb, _⟩ := MO.fn g d hd
        exact run_fnS (us := .ref a :: us) (vs := .ref a :: vs) F hr hb (passAt tk σ) I2 (.cons rfl r) ⟨ι2, G, h2, x :: xs, R2, .cons (rv.mono e2) rs, hl, F2⟩
      · rw [MO.ar g (x :: xs) h2 fun d hd' hl => hd ⟨d, hd', hl⟩] at F2
        exact F2.elim
    have kp : PySem.W.keepIn X.K (.ref (fa g)) = true := hm.kp
    cases es with
    | nil =>
      rw [hgs rfl] at F1
      exact PySem.W.callWith_K0 (first := [.ref a]) I1.kIn kp (fin I1 .nil (Ext.refl _ _) R1 .nil F1)
    | cons e es =>
      rw [List.all_cons, Bool.and_eq_true] at hst
      have h2 : tA X.K T W gs σ H1 fun vs H2 => ∃ ι2 h2 xs, Ext ι1 H1 ι2 H2 ∧ Rep X.K T ι2 G H2 h2 ∧ RVs X.K ι2 G H2 vs xs ∧ Fin X.K T (RV X.K) W σ ι2 G H2 (calls g (x :: xs) h2) Q :=
        ⟨ι1, G, h1, env, R1, E1, Fin.bind (R := RVs X.K) F1⟩
      refine PySem.W.callWith_K (first := [.ref a]) (h₀ := X.base) I.ok.mod.kin kp (thn (ha.run pos pins s1 σ H1 _ I1 h2) fun us s2 ⟨vs, H2, I2, r, ι2, h2, xs, e2, R2, rs, F2⟩ => ⟨I2.kIn, ?_⟩) (star_ok hst.1) (stars_ok hst.2)
      exact fin I2 r e2 R2 rs F2
  · exact F1.elim
end
end G

set_option maxHeartbeats 4000000
/-! GSem6: errors made, methods of lists, statements. -/
namespace G
open PySem PySem.Spec PyProof.Rows L2
/-! ### statements by their evaluation -/
def FinS (K : PySem.W.Frag) (T : Tie) (W : WX) (D : Ends) (ι : Io) (G : Gh) (H : Hp) (r : SR) : Prop :=
  match r with
  | .nx env' h' => ∀ ι' H' σ', Ext ι H ι' H' → Rep K T ι' G H' h' → RE K T ι' G H' σ' env' → D.nx σ' H'
  | .rt x h' => ∀ ι' H' v, Ext ι H ι' H' → Rep K T ι' G H' h' → RV K ι' G H' v x → D.rt v H'
  | .bk env' h' => ∀ ι' H' σ', Ext ι H ι' H' → Rep K T ι' G H' h' → RE K T ι' G H' σ' env' → D.bk σ' H'
  | .ct env' h' => ∀ ι' H' σ', Ext ι H ι' H' → Rep K T ι' G H' h' → RE K T ι' G H' σ' env' → D.ct σ' H'
  | .ex c fs env' h' => ∀ ι' H' σ' cls d, Ext ι H ι' H' → Rep K T ι' G H' h' → RE K T ι' G H' σ' env' → RX K T ι' G H' cls d c fs → W cls d σ' H'
  | .bad => False
def tS (K : PySem.W.Frag) (T : Tie) (W : WX) (g : Env → LH → SR) : TS := fun D σ H => ∃ ι G h env, Rep K T ι G H h ∧ RE K T ι G H σ env ∧ FinS K T W D ι G H (g env h)
section
variable {K : PySem.W.Frag} {T : Tie} {W : WX} {σ : L2.St} {ι ι' : Io} {G : Gh} {H H' : Hp} {h h' : LH} {env : Env} {D : Ends} {α β : Type} {R : Io → Gh → Hp → β → α → Prop}
theorem FinS.mono {r : SR} (e : Ext ι H ι' H') (F : FinS K T W D ι G H r) : FinS K T W D ι' G H' r := by
  cases r with
  | nx env' h' => exact fun ι2 H2 σ' e2 => F ι2 H2 σ' (e.trans e2)
  | rt x h' => exact fun ι2 H2 v e2 => F ι2 H2 v (e.trans e2)
  | bk env' h' => exact fun ι2 H2 σ' e2 => F ι2 H2 σ' (e.trans e2)
  | ct env' h' => exact fun ι2 H2 σ' e2 => F ι2 H2 σ' (e.trans e2)
  | ex c fs env' h' => exact fun ι2 H2 σ' cls d e2 => F ι2 H2 σ' cls d (e.trans e2)
  | bad => exact F
/-- an expression within a statement -/
theorem FinS.sr {r : Res α} {f : α → LH → SR} (E : RE K T ι G H σ env) (F : FinS K T W D ι G H (r.sr env f)) :
    Fin K T R W σ ι G H r fun v H1 => ∃ ι1 h1 x, Ext ι H ι1 H1 ∧ Rep K T ι1 G H1 h1 ∧ R ι1 G H1 v x ∧ FinS K T W D ι1 G H1 (f x h1) := by
  cases r with
  | ok a h1 => exact fun ι' H' v e rp rv => ⟨ι', h1, a, e, rp, rv, FinS.mono e F⟩
  | ex c fs h1 => exact fun ι' H' cls d e rp rx => F ι' H' σ cls d e rp (E.mono e) rx
  | bad => exact F
theorem FinS.next_ {r : SR} {f : Env → LH → SR} (F : FinS K T W D ι G H (r.next f)) : FinS K T W { D with nx := tS K T W f D } ι G H r := by
  cases r with
  | nx env' h' => exact fun ι2 H2 σ' e2 rp re => ⟨ι2, G, h', env', rp, re, FinS.mono e2 F⟩
  | _ => exact F
end
theorem PS.imp {X : Cx} {s : Stmt} {t t' : TS} (p : PS X s t) (h : ∀ D σ H, t' D σ H → t D σ H) : PS X s t' := ⟨fun pins s σ H D I q => p.run pins s σ H D I (h D σ H q)⟩
theorem PSs.imp {X : Cx} {s : List Stmt} {t t' : TS} (p : PSs X s t) (h : ∀ D σ H, t' D σ H → t D σ H) : PSs X s t' := ⟨fun pins s σ H D I q => p.run pins s σ H D I (h D σ H q)⟩
section
variable {K : PySem.W.Frag} {T : Tie} {W : WX} {M : Pm}
/-! ### blocks -/
theorem ss_cons {s : S} {r : Ss} : ∀ D σ H, tS K T W (exSs M (.cons s r)) D σ H → tSeq (tS K T W (exS M s)) (tS K T W (exSs M r)) D σ H := by
  rintro D σ H ⟨ι, G, h, env, R, E, F⟩
  exact ⟨ι, G, h, env, R, E, FinS.next_ F⟩
theorem ss_nil : ∀ D σ H, tS K T W (exSs M .nil) D σ H → tNext D σ H := by
  rintro D σ H ⟨ι, G, h, env, R, E, F⟩
  exact F ι H σ (Ext.refl _ _) R E
theorem s_pass : ∀ D σ H, tS K T W (exS M .pass) D σ H → tNext D σ H := by
  rintro D σ H ⟨ι, G, h, env, R, E, F⟩
  exact F ι H σ (Ext.refl _ _) R E
theorem s_brk : ∀ D σ H, tS K T W (exS M .brk) D σ H → tBreak D σ H := by
  rintro D σ H ⟨ι, G, h, env, R, E, F⟩
  exact F ι H σ (Ext.refl _ _) R E
theorem s_cont : ∀ D σ H, tS K T W (exS M .cont) D σ H → tCont D σ H := by
  rintro D σ H ⟨ι, G, h, env, R, E, F⟩
  exact F ι H σ (Ext.refl _ _) R E
theorem s_ex {e : E} : ∀ D σ H, tS K T W (exS M (.ex e)) D σ H → tDrop (tE K T W fun env h => ev M env e h) D σ H := by
  rintro D σ H ⟨ι, G, h, env, R, E, F⟩
  refine ⟨ι, G, h, env, R, E, (FinS.sr (R := RV K) E F).imp ?_⟩
  rintro v H1 ⟨ι1, h1, x, e1, R1, rv, F1⟩
  exact F1 ι1 H1 σ (Ext.refl _ _) R1 (E.mono e1)
theorem s_ret {e : E} : ∀ D σ H, tS K T W (exS M (.ret e)) D σ H → tRet (tE K T W fun env h => ev M env e h) D σ H := by
  rintro D σ H ⟨ι, G, h, env, R, E, F⟩
  refine ⟨ι, G, h, env, R, E, (FinS.sr (R := RV K) E F).imp ?_⟩
  rintro v H1 ⟨ι1, h1, x, e1, R1, rv, F1⟩
  exact F1 ι1 H1 v (Ext.refl _ _) R1 rv
theorem s_retN : ∀ D σ H, tS K T W (exS M .retN) D σ H → tRetN D σ H := by
  rintro D σ H ⟨ι, G, h, env, R, E, F⟩
  exact F ι H .non (Ext.refl _ _) R .non
theorem s_if {c : E} {a b : Ss} : ∀ D σ H, tS K T W (exS M (.ite c a b)) D σ H → tIfS (tT K T W fun env h => evT M env c h) (tS K T W (exSs M a)) (tS K T W (exSs M b)) D σ H := by
  rintro D σ H ⟨ι, G, h, env, R, E, F⟩
  have F2 : FinS K T W D ι G H ((evT M env c h).sr env fun t h2 => if t = true then exSs M a env h2 else exSs M b env h2) := by
    have : exS M (.ite c a b) env h = (evT M env c h).sr env fun t h2 => if t = true then exSs M a env h2 else exSs M b env h2 := by
      show (ev M env c h).sr env _ = _
      unfold evT
      cases ev M env c h with
      | ok x h1 =>
        show (ofOpt (truth h1 x) h1).sr env _ = (ofOpt (truth h1 x) h1).sr env _
        rfl
      | ex c fs h1 => rfl
      | bad => rfl
    rw [← this]
    exact F
  refine ⟨ι, G, h, env, R, E, (FinS.sr (R := RId) E F2).imp ?_⟩
  rintro v H1 ⟨ι1, h1, x, e1, R1, rv, F1⟩
  have rv : v = x := rv
  subst rv
  cases v with
  | true => exact ⟨ι1, G, h1, env, R1, E.mono e1, F1⟩
  | false => exact ⟨ι1, G, h1, env, R1, E.mono e1, F1⟩
theorem s_set {t : Tg} {e : E} : ∀ D σ H, tS K T W (exS M (.set t e)) D σ H → tAsg (tE K T W fun env h => ev M env e h) (gTg K t) D σ H := by
  rintro D σ H ⟨ι, G, h, env, R, E, F⟩
  refine ⟨ι, G, h, env, R, E, (FinS.sr (R := RV K) E F).imp ?_⟩
  rintro v H1 ⟨ι1, h1, x, e1, R1, rv, F1⟩
  cases ha : assignT t x h1 env with
  | none => simp only [ha] at F1; exact F1.elim
  | some env' =>
    simp only [ha] at F1
    exact tg_val R1 (E.mono e1) rv ha fun σ' E' _ => F1 ι1 H1 σ' (Ext.refl _ _) R1 E'
theorem s_fld {o e : E} {f : Nat} (C : ClsOk K T M.P) : ∀ D σ H, tS K T W (exS M (.fld o f e)) D σ H → sFld K (tE K T W fun env h => ev M env o h) (tE K T W fun env h => ev M env e h) (T.nm f) D σ H := by
  rintro D σ H ⟨ι, G, h, env, R, E, F⟩
  refine ⟨ι, G, h, env, R, E, (FinS.sr (R := RV K) E F).imp ?_⟩
  rintro w H1 ⟨ι1, h1, y, e1, R1, rw, F1⟩
  refine ⟨ι1, G, h1, env, R1, E.mono e1, (FinS.sr (R := RV K) (E.mono e1) F1).imp ?_⟩
  rintro v H2 ⟨ι2, h2, x, e2, R2, rv, F2⟩
  cases hs : setFld M.P x y f h2 with
  | none => simp only [hs] at F2; exact F2.elim
  | some h3 =>
    simp only [hs] at F2
    obtain ⟨a, c, dx, fs, rfl, hp, c1, c2, hl, _, ex, R3⟩ := setFld_val C R2 rv (rw.mono e2) hs
    exact ⟨a, _, dx, fs, rfl, hp, c1, c2, hl, F2 ι2 _ σ ex R3 ((E.mono (e1.trans e2)).mono ex)⟩
def rAugF : Op2 → V → V → Hp → VK → Prop
  | .add => L2.rAdd
  | .sub => L2.rSub
  | _ => fun _ _ _ _ => False
theorem aug_val {op : Op2} {x y z : Val} {v w : V} {ι : Io} {G : Gh} {H : Hp} {Q : VK} (e : augV op x y = some z) (rv : RV K ι G H v x) (rw : RV K ι G H w y) (q : ∀ u, RV K ι G H u z → Q u H) : rAugF op v w H Q := by
  unfold augV at e
  split at e
  · cases e; cases rv; cases rw; exact ⟨_, _, rfl, rfl, q _ (.int _)⟩
  · cases e; cases rv; cases rw; exact ⟨_, _, rfl, rfl, q _ (.int _)⟩
  · cases e
theorem s_fldA {o e : E} {f : Nat} {op : Op2} (C : ClsOk K T M.P) :
    ∀ D σ H, tS K T W (exS M (.fldA o f op e)) D σ H → sFldAug K (tE K T W fun env h => ev M env o h) (tE K T W fun env h => ev M env e h) (rAugF op) (T.nm f) D σ H := by
  rintro D σ H ⟨ι, G, h, env, R, E, F⟩
  refine ⟨ι, G, h, env, R, E, (FinS.sr (R := RV K) E F).imp ?_⟩
  rintro v H1 ⟨ι1, h1, x, e1, R1, rv, F1⟩
  cases hf : fldVal M.P h1 x f with
  | none => simp only [hf] at F1; exact F1.elim
  | some old =>
    simp only [hf] at F1
    obtain ⟨a, c, dx, fs, z, rfl, hp, c1, c2, hl, rz, hc⟩ := fld_raw C R1 rv hf
    refine ⟨a, _, dx, fs, z, rfl, hp, c1, c2, hl, ι1, G, h1, env, R1, E.mono e1, (FinS.sr (R := RV K) (E.mono e1) F1).imp ?_⟩
    rintro w H2 ⟨ι2, h2, y, e2, R2, rw', F2⟩
    cases ha : augV op old y with
    | none => simp only [ha] at F2; exact F2.elim
    | some nw =>
      simp only [ha] at F2
      split at F2
      · rename_i hcl
        cases hs : setFld M.P x nw f h2 with
        | none => simp only [hs] at F2; exact F2.elim
        | some h3 =>
          simp only [hs] at F2
          refine aug_val ha (rz.mono e2) rw' fun u ru => ?_
          obtain ⟨a', c', dx', fs', e0, hp', _, _, hl', hc', ex, R3⟩ := setFld_val C R2 (rv.mono e2) ru hs
          cases e0
          rw [hcl, hc] at hc'
          cases hc'
          exact ⟨dx', fs', hp', hl', F2 ι2 _ σ ex R3 ((E.mono (e1.trans e2)).mono ex)⟩
      · exact F2.elim
theorem s_aug {i : Nat} {op : Op2} {e : E} : ∀ D σ H, tS K T W (exS M (.aug i op e)) D σ H → tAug i (tE K T W fun env h => ev M env e h) (rAugF op) D σ H := by
  rintro D σ H ⟨ι, G, h, env, R, E, F⟩
  simp only [exS] at F
  split at F
  · rename_i x hx
    obtain ⟨v, hv, rv⟩ := E.at_ i x hx
    refine ⟨v, hv, ι, G, h, env, R, E, (FinS.sr (R := RV K) E F).imp ?_⟩
    rintro w H1 ⟨ι1, h1, y, e1, R1, rw', F1⟩
    cases ha : augV op x y with
    | none => simp only [ha] at F1; exact F1.elim
    | some nw =>
      simp only [ha] at F1
      exact aug_val ha (rv.mono e1) rw' fun u ru => F1 ι1 H1 _ (Ext.refl _ _) R1 ((E.mono e1).set ru)
  · exact F.elim
theorem s_sub {o i e : E} : ∀ D σ H, tS K T W (exS M (.sub o i e)) D σ H → tAsg (tE K T W fun env h => ev M env e h) (gSub (tE K T W fun env h => ev M env o h) (tE K T W fun env h => ev M env i h) rSetL) D σ H := by
  rintro D σ H ⟨ι, G, h, env, R, E, F⟩
  refine ⟨ι, G, h, env, R, E, (FinS.sr (R := RV K) E F).imp ?_⟩
  rintro w H1 ⟨ι1, h1, y, e1, R1, rw', F1⟩
  refine ⟨ι1, G, h1, env, R1, E.mono e1, (FinS.sr (R := RV K) (E.mono e1) F1).imp ?_⟩
  rintro v H2 ⟨ι2, h2, x, e2, R2, rv, F2⟩
  refine ⟨ι2, G, h2, env, R2, E.mono (e1.trans e2), (FinS.sr (R := RV K) (E.mono (e1.trans e2)) F2).imp ?_⟩
  rintro k H3 ⟨ι3, h3, z, e3, R3, rk, F3⟩
  cases hs : setSub x z y h3 with
  | none => simp only [hs] at F3; exact F3.elim
  | some h4 =>
    simp only [hs] at F3
    exact setSub_val R3 (rv.mono e3) rk (rw'.mono (e2.trans e3)) hs fun H' ex R4 => F3 ι3 H' σ ex R4 ((E.mono ((e1.trans e2).trans e3)).mono ex)

/-! ### loops -/
theorem s_for {t : Tg} {it : Wk} {b : Ss} : ∀ D σ H, tS K T W (exS M (.for t it b)) D σ H → tFor (tI K T W fun env h => evI M env it h) (gTg K t) (tS K T W (exSs M b)) D σ H := by
  rintro D σ H ⟨ι, G, h, env, R, E, F⟩
  refine ⟨ι, G, h, env, R, E, ?_⟩
  have F2 : FinS K T W D ι G H ((evI M env it h).sr env fun s h1 => match s.len h1 with
    | some n => forN (exSs M b) t s n 0 env h1
    | none => .bad) := F
  clear F
  show PR (evI M env it h) _ _
  revert F2
  cases evI M env it h with
  | bad => exact fun F => F
  | ex c fs h1 => exact fun F ι' H' cls d e rp rx => F ι' H' σ cls d e rp (E.mono e) rx
  | ok s h1 =>
    intro F ι1 H1 J ex R1 sk
    have F := FinS.mono ex F
    have F : FinS K T W D ι1 G H1 (match s.len h1 with
      | some n => forN (exSs M b) t s n 0 env h1
      | none => .bad) := F
    cases hl : s.len h1 with
    | none => rw [hl] at F; exact F.elim
    | some n =>
      rw [hl] at F
      have F : FinS K T W D ι1 G H1 (forN (exSs M b) t s n 0 env h1) := F
      refine ⟨fun i m σ2 H2 => ∃ ι2 h2 env2, Ext ι1 H1 ι2 H2 ∧ Rep K T ι2 G H2 h2 ∧ RE K T ι2 G H2 σ2 env2 ∧ FinS K T W D ι1 G H1 (forN (exSs M b) t s m i env2 h2),
        ⟨n, ι1, h1, env, Ext.refl _ _, R1, E.mono ex, F⟩, ?_⟩
      rintro i m σ2 H2 ⟨ι2, h2, env2, e2, R2, E2, F2⟩
      obtain ⟨sk1, sk2⟩ := sk i ι2 G H2 h2 e2.kp R2
      unfold forN at F2
      cases hn : s.next h2 i with
      | none => rw [hn] at F2; exact F2.elim
      | some o =>
        rw [hn] at F2
        cases o with
        | none => exact .inl ⟨sk1 hn, F2 ι2 H2 σ2 e2 R2 E2⟩
        | some x =>
          right
          cases m with
          | zero => exact F2.elim
          | succ m =>
            simp only at F2
            obtain ⟨go, yl⟩ := sk2 x hn
            refine ⟨go, fun σ' H' => ∃ ι3 h3 env3, Ext ι1 H1 ι3 H' ∧ Rep K T ι3 G H' h3 ∧ RE K T ι3 G H' σ' env3 ∧ FinS K T W D ι1 G H1 (forN (exSs M b) t s m (i + 1) env3 h3),
              fun σ' H' ⟨ι3, h3, env3, a, b', c, d⟩ => ⟨m, Nat.lt_succ_self m, ι3, h3, env3, a, b', c, d⟩, ?_⟩
            intro v H3 hy
            obtain ⟨e3, R3, rv⟩ := yl v H3 hy
            cases ha : assignT t x h2 env2 with
            | none => rw [ha] at F2; exact F2.elim
            | some env3 =>
              rw [ha] at F2
              simp only at F2
              have e23 := e2.trans e3
              refine tg_val R3 (E2.mono e3) rv ha fun σ4 E4 _ => ⟨ι2, G, h2, env3, R3, E4, ?_⟩
              revert F2
              cases exSs M b env3 h2 with
              | nx env5 h5 => exact fun F ι5 H5 σ5 e5 R5 E5 => ⟨ι5, h5, env5, e23.trans e5, R5, E5, F⟩
              | ct env5 h5 => exact fun F ι5 H5 σ5 e5 R5 E5 => ⟨ι5, h5, env5, e23.trans e5, R5, E5, F⟩
              | bk env5 h5 => exact fun F ι5 H5 σ5 e5 R5 E5 => F ι5 H5 σ5 (e23.trans e5) R5 E5
              | rt x h5 => exact fun F ι5 H5 v5 e5 R5 r5 => F ι5 H5 v5 (e23.trans e5) R5 r5
              | ex c fs env5 h5 => exact fun F ι5 H5 σ5 cls d e5 R5 E5 rx => F ι5 H5 σ5 cls d (e23.trans e5) R5 E5 rx
              | bad => exact fun F => F
theorem s_while {c : E} {b : Ss} : ∀ D σ H, tS K T W (exS M (.while c b)) D σ H → tWhile (tT K T W fun env h => evT M env c h) (tS K T W (exSs M b)) D σ H := by
  rintro D σ H ⟨ι, G, h, env, R, E, F⟩
  have F : FinS K T W D ι G H (whileN (fun σ h => evT M σ c h) (exSs M b) M.wf env h) := F
  refine ⟨fun m σ2 H2 => ∃ ι2 h2 env2, Rep K T ι2 G H2 h2 ∧ RE K T ι2 G H2 σ2 env2 ∧ FinS K T W D ι2 G H2 (whileN (fun σ h => evT M σ c h) (exSs M b) m env2 h2),
    ⟨M.wf, ι, h, env, R, E, F⟩, ?_⟩
  rintro m σ2 H2 ⟨ι2, h2, env2, R2, E2, F2⟩
  cases m with
  | zero => exact F2.elim
  | succ m =>
    unfold whileN at F2
    refine ⟨ι2, G, h2, env2, R2, E2, (FinS.sr (R := RId) E2 F2).imp ?_⟩
    rintro t H3 ⟨ι3, h3, t', e3, R3, rt, F3⟩
    have rt : t = t' := rt
    subst rt
    have E3 := E2.mono e3
    cases t with
    | false => exact F3 ι3 H3 σ2 (Ext.refl _ _) R3 E3
    | true =>
      show ∃ N, _
      refine ⟨fun σ' H' => ∃ ι4 h4 env4, Rep K T ι4 G H' h4 ∧ RE K T ι4 G H' σ' env4 ∧ FinS K T W D ι4 G H' (whileN (fun σ h => evT M σ c h) (exSs M b) m env4 h4),
        fun σ' H' ⟨ι4, h4, env4, b', c', d⟩ => ⟨m, Nat.lt_succ_self m, ι4, h4, env4, b', c', d⟩, ι3, G, h3, env2, R3, E3, ?_⟩
      have F0 : FinS K T W D ι3 G H3 (match exSs M b env2 h3 with
        | .nx σ2 h2 => whileN (fun σ h => evT M σ c h) (exSs M b) m σ2 h2
        | .ct σ2 h2 => whileN (fun σ h => evT M σ c h) (exSs M b) m σ2 h2
        | .bk σ2 h2 => .nx σ2 h2
        | r => r) := by
        rw [if_pos rfl] at F3
        exact F3
      revert F0
      cases exSs M b env2 h3 with
      | nx env5 h5 => exact fun F ι5 H5 σ5 e5 R5 E5 => ⟨ι5, h5, env5, R5, E5, FinS.mono e5 F⟩
      | ct env5 h5 => exact fun F ι5 H5 σ5 e5 R5 E5 => ⟨ι5, h5, env5, R5, E5, FinS.mono e5 F⟩
      | bk env5 h5 => exact fun F ι5 H5 σ5 e5 R5 E5 => F ι5 H5 σ5 e5 R5 E5
      | rt x h5 => exact fun F ι5 H5 v5 e5 R5 r5 => F ι5 H5 v5 e5 R5 r5
      | ex c fs env5 h5 => exact fun F ι5 H5 σ5 cls d e5 R5 E5 rx => F ι5 H5 σ5 cls d e5 R5 E5 rx
      | bad => exact fun F => F
end
/-! ### methods of lists -/
section
variable {K : PySem.W.Frag} {T : Tie} {W : WX} {σ : L2.St} {ι ι' : Io} {G : Gh} {H H' : Hp} {h h' : LH} {env : Env}
theorem append_val {x y : Val} {v w : V} {Q : VK} (R : Rep K T ι G H h) (rv : RV K ι G H v x) (rw : RV K ι G H w y) (F : Fin K T (RV K) W σ ι G H (bmV h .append x [y]) Q) : rAppend v [w] H Q := by
  cases x with
  | ref a =>
    simp only [bmV] at F
    split at F
    · rename_i xs ho
      split at F
      · rename_i hl
        obtain ⟨p, vs, rfl, hi, hp, rs⟩ := lstb_ok R rv ho
        exact ⟨p, vs, w, rfl, rfl, hp, by rw [rs.length]; exact hl, F ι _ _ (R.setExt hi) (R.set hi (.lst upd_same ((rs.append (.cons rw .nil)).mono (R.setExt hi)))) .non⟩
      · exact F.elim
    · exact F.elim
  | _ => exact F.elim
theorem pop_val {x : Val} {v : V} {Q : VK} (R : Rep K T ι G H h) (rv : RV K ι G H v x) (F : Fin K T (RV K) W σ ι G H (bmV h .pop x []) Q) : rPop v [] H Q := by
  cases x with
  | ref a =>
    simp only [bmV] at F
    split at F
    · rename_i xs ho
      split at F
      · rename_i y hy
        obtain ⟨p, vs, rfl, hi, hp, rs⟩ := lstb_ok R rv ho
        obtain ⟨w, hw, rw⟩ := rs.get hy
        exact ⟨p, vs, w, rfl, rfl, hp, by rw [rs.length]; exact hw, F ι _ _ (R.setExt hi) (R.set hi (.lst upd_same (rs.dropLast.mono (R.setExt hi)))) (rw.mono (R.setExt hi))⟩
      · exact F.elim
    · exact F.elim
  | _ => exact F.elim
theorem popAt_val {x y : Val} {v w : V} {Q : VK} (R : Rep K T ι G H h) (rv : RV K ι G H v x) (rw : RV K ι G H w y) (F : Fin K T (RV K) W σ ι G H (bmV h .popAt x [y]) Q) : rPopAt v [w] H Q := by
  cases x with
  | ref a =>
    cases rw with
    | int i =>
      simp only [bmV] at F
      split at F
      · rename_i xs ho
        split at F
        · rename_i hb
          split at F
          · rename_i k hk
            split at F
            · rename_i y hy
              obtain ⟨p, vs, rfl, hi, hp, rs⟩ := lstb_ok R rv ho
              obtain ⟨w, hw, rw⟩ := rs.get hy
              obtain ⟨k1, k2, k3, k4⟩ := ixN_seq hk
              exact ⟨p, vs, i, k, w, rfl, rfl, hp, hb.1, hb.2, by rw [rs.length]; exact k1, hw, F ι _ _ (R.setExt hi) (R.set hi (.lst upd_same ((rs.eraseIdx k).mono (R.setExt hi)))) (rw.mono (R.setExt hi))⟩
            · exact F.elim
          · exact F.elim
        · exact F.elim
      · exact F.elim
    | _ => exact F.elim
  | _ => exact F.elim
end
end G

set_option maxHeartbeats 4000000
/-! GComp: from the model's syntax to ours, checked. -/
namespace G
open PySem PySem.Spec PyProof.Rows L2
/-- what a module's name is -/
inductive GV where
  | fn (f : Nat) (ps : List Str)
  | cls (c : Nat)
  | con (i : Nat)
  | blt
structure Ctx where
  N : List Str
  sc : Scope
  gl : List (Str × GV)
  fld : List (Str × Nat)
  /-- where new lists may change: line, column, end's column -/
  bx : List (Nat × Nat × Nat)
  /-- the names whose cells were made at the entry -/
  fnAll : Bool
  fnc : List Str
/-! ### small helps -/
def opt1 {α β : Type} (f : α → β) (a : Option α) : Option β := match a with
  | some x => some (f x)
  | none => none
def opt2 {α β γ : Type} (f : α → β → γ) (a : Option α) (b : Option β) : Option γ := match a, b with
  | some x, some y => some (f x y)
  | _, _ => none
def opt3 {α β γ δ : Type} (f : α → β → γ → δ) (a : Option α) (b : Option β) (c : Option γ) : Option δ := match a, b, c with
  | some x, some y, some z => some (f x y z)
  | _, _, _ => none
def gd {α : Type} (c : Bool) (a : Option α) : Option α := match c with
  | true => a
  | false => none
theorem opt1_some {α β : Type} {f : α → β} {a : Option α} {z : β} (h : opt1 f a = some z) : ∃ x, a = some x ∧ z = f x := by
  cases a with
  | none => cases h
  | some x => cases h; exact ⟨x, rfl, rfl⟩
theorem opt2_some {α β γ : Type} {f : α → β → γ} {a : Option α} {b : Option β} {z : γ} (h : opt2 f a b = some z) : ∃ x y, a = some x ∧ b = some y ∧ z = f x y := by
  cases a with
  | none => cases h
  | some x => cases b with
    | none => cases h
    | some y => cases h; exact ⟨x, y, rfl, rfl, rfl⟩
theorem opt3_some {α β γ δ : Type} {f : α → β → γ → δ} {a : Option α} {b : Option β} {c : Option γ} {z : δ} (h : opt3 f a b c = some z) : ∃ x y w, a = some x ∧ b = some y ∧ c = some w ∧ z = f x y w := by
  cases a with
  | none => cases h
  | some x => cases b with
    | none => cases h
    | some y => cases c with
      | none => cases h
      | some w => cases h; exact ⟨x, y, w, rfl, rfl, rfl, rfl⟩
theorem gd_some {α : Type} {c : Bool} {a : Option α} {z : α} (h : gd c a = some z) : c = true ∧ a = some z := by
  cases c with
  | true => exact ⟨rfl, h⟩
  | false => cases h
def ixS : List Str → Str → Option Nat
  | [], _ => none
  | y :: r, x => match decide (y = x) with
    | true => some 0
    | false => opt1 (· + 1) (ixS r x)
theorem ixS_some : ∀ {N : List Str} {x : Str} {i : Nat}, ixS N x = some i → N[i]? = some x
  | [], _, _, h => by cases h
  | y :: r, x, i, h => by
    unfold ixS at h
    split at h
    · rename_i e
      cases h
      have : y = x := of_decide_eq_true e
      simp [this]
    · obtain ⟨j, hj, rfl⟩ := opt1_some h
      simpa using ixS_some hj
def lk {α : Type} : List (Str × α) → Str → Option α
  | [], _ => none
  | (y, a) :: r, x => match decide (y = x) with
    | true => some a
    | false => lk r x
theorem lk_mem {α : Type} : ∀ {l : List (Str × α)} {x : Str} {a : α}, lk l x = some a → (x, a) ∈ l
  | [], _, _, h => by cases h
  | (y, b) :: r, x, a, h => by
    unfold lk at h
    split at h
    · rename_i e
      cases h
      have : y = x := of_decide_eq_true e
      subst this
      exact List.mem_cons_self
    · exact List.mem_cons_of_mem _ (lk_mem h)
def isKind (sc : Scope) (x : Str) (k : NameKind) : Bool := decide (sc.names.lookup x = some k)
def visB (sc : Scope) (x : Str) : Bool := isKind sc x .local || isKind sc x .cell || isKind sc x .free
theorem visB_ok {sc : Scope} {x : Str} (h : visB sc x = true) : Vis sc x := by
  unfold visB isKind at h
  simp only [Bool.or_eq_true, decide_eq_true_eq] at h
  rcases h with (h | h) | h
  · exact .inl h
  · exact .inr (.inl h)
  · exact .inr (.inr h)
def isDebug (x : Str) : Bool := x == ("__debug__" : Str)
/-- a slot that is read -/
def rdSlot (c : Ctx) (x : Str) : Option Nat := gd (visB c.sc x && !isDebug x && !(x == ("__classdict__" : Str))) (ixS c.N x)
/-- a slot that is stored -/
def wrSlot (c : Ctx) (x : Str) : Option Nat := gd (isKind c.sc x .local || (isKind c.sc x .cell && (c.fnAll || c.fnc.any (fun y => decide (y = x))))) (ixS c.N x)
/-- a module's name -/
def glName (c : Ctx) (x : Str) : Option GV := gd (isKind c.sc x .globalImplicit && !isDebug x && !(x == ("__name__" : Str))) (lk c.gl x)
def bxAt (c : Ctx) (p : Pos) : Bool := c.bx.any fun q => q.1 == p.line && (q.2.1 == p.col && q.2.2 == p.endCol)
def op2Of : Operator → Option Op2
  | .Add => some .add | .Sub => some .sub | .Mult => some .mul | .FloorDiv => some .fdiv | .Mod => some .mod | .Pow => some .pow
  | _ => none
theorem op2Of_ok {o : Operator} {p : Op2} (h : op2Of o = some p) : o = opOf p := by
  cases o <;> first | (cases h; done) | (cases h; rfl)
def cmToM : CmpOp → Cm
  | .Eq => .eq | .NotEq => .ne | .Lt => .lt | .LtE => .le | .Gt => .gt | .GtE => .ge | .Is => .is | .IsNot => .isnt | .In => .inn | .NotIn => .nin
theorem cmToM_ok (o : CmpOp) : cmOf (cmToM o) = o := by cases o <;> rfl
def conOf : Const → Option Val
  | .none => some .non
  | .bool b => some (.bl b)
  | .int i => some (.int i)
  | .str s => some (.str s)
  | _ => none
def tyOf (x : Str) : Option Ty :=
  if x = "int" then some .int else if x = "bool" then some .bool else if x = "str" then some .str else if x = "tuple" then some .tup else if x = "list" then some .lst else none
def biOf (x : Str) (n : Nat) : Option Bi :=
  if x = "len" then some .len else if x = "abs" then some .abs else if x = "int" then some .int else if x = "str" then some .str else if x = "bool" then some .bool else
  if x = "all" then some .all else if x = "any" then some .any else if x = "sum" then some .sum else if x = "tuple" then some .tuple else
  if x = "max" then (if n = 2 then some .max2 else some .max) else if x = "min" then (if n = 2 then some .min2 else some .min) else none
def bmOf (x : Str) (n : Nat) : Option Bm :=
  if x = "append" then some .append else if x = "pop" then (if n = 0 then some .pop else some .popAt) else none
def isBm (x : Str) : Bool := decide (x = "append") || decide (x = "pop") || decide (x = "extend") || decide (x = "join") || decide (x = "split") || decide (x = "get") || decide (x = "items") || decide (x = "index") || decide (x = "add")
def nmSlot (c : Ctx) : Expr → Option Nat
  | .Name x _ => wrSlot c x
  | _ => none
def slotsOf (c : Ctx) : List Expr → Option (List Nat)
  | [] => some []
  | e :: es => opt2 (fun a b => a :: b) (nmSlot c e) (slotsOf c es)
def tgOf (c : Ctx) : Expr → Option Tg
  | .Name x _ => opt1 .v (wrSlot c x)
  | .Tuple es _ _ => opt1 .tup (slotsOf c es)
  | _ => none
/-- the names of a target -/
def nmE : Expr → List Str
  | .Name x _ => [x]
  | _ => []
def tgNames : Expr → List Str
  | .Name x _ => [x]
  | .Tuple es _ _ => es.flatMap nmE
  | _ => []
/-- it can be a test -/
def tstOk : Expr → Bool
  | .IfExp .. => false
  | _ => true
def isTupE : Expr → Bool
  | .Tuple .. => true
  | _ => false
/-- the context within a comprehension -/
def Ctx.blk (c : Ctx) (scope : Scope) : Ctx := { c with sc := relS scope c.sc, fnAll := false, fnc := (scope.names.filter fun y => match y.2 with | .cell => true | _ => false).map (·.1) }
def kwNames (kws : List Keyword) : Option (List Str) := kws.mapM (·.arg)
mutual
def compE : Nat → Ctx → Expr → Option E
  | 0, _, _ => none
  | n + 1, c, e => match e with
    | .Name x _ => match rdSlot c x with
      | some i => some (.v i)
      | none => match glName c x with
        | some (.con i) => some (.g i)
        | _ => none
    | .Constant k _ _ => opt1 .c (conOf k)
    | .BinOp a op b p => match bxAt c p, op with
      | true, .Add => opt2 (fun x y => .bx (.cat x y)) (compE n c a) (compE n c b)
      | true, .Mult => opt2 (fun x y => .bx (.rep x y)) (compE n c a) (compE n c b)
      | _, _ => opt3 .bin (op2Of op) (compE n c a) (compE n c b)
    | .UnaryOp .USub a _ => opt1 .neg (compE n c a)
    | .UnaryOp .Not a _ => gd (tstOk a) (opt1 .not (compE n c a))
    | .BoolOp op es _ => compB n c op es
    | .Compare a [o] [b] _ => gd (noSet b) (opt2 (.cmp (cmToM o)) (compE n c a) (compE n c b))
    | .Compare a [o, p] [b, d] _ => gd (noSet d) (opt3 (.cmp2 (cmToM o) (cmToM p)) (compE n c a) (compE n c b) (compE n c d))
    | .IfExp t a b _ => gd (tstOk t) (opt3 .ite (compE n c t) (compE n c a) (compE n c b))
    | .Tuple es _ _ => opt1 .tup (compEs n c es)
    | .List es p => opt1 (fun xs => if bxAt c p then .bx (.disp xs) else .fr (.disp xs)) (compEs n c es)
    | .ListComp elt [⟨tg, it, ifs, a⟩] sc p => gd (decide (a = 0) && noSet it) (opt1 (fun f => if bxAt c p then .bx f else .fr f) (compLc n c elt tg it ifs sc))
    | .Subscript a (.Slice none none (some (.UnaryOp .USub (.Constant (.int 1) _ _) _)) _) p => match bxAt c p with
      | true => none
      | false => opt1 .rev (compE n c a)
    | .Subscript a (.Slice lo hi none _) p => match bxAt c p with
      | true => opt3 (fun x l u => .bx (.lslice x l u)) (compE n c a) (compO n c lo) (compO n c hi)
      | false => opt3 .sl (compE n c a) (compO n c lo) (compO n c hi)
    | .Subscript a b _ => gd (noSl b) (opt2 .ix (compE n c a) (compE n c b))
    | .Attribute a f _ => gd (noSuper a) (opt2 .fld (compE n c a) (lk c.fld f))
    | .Call (.Name x _) args kws p => match glName c x with
      | some (.fn f ps) => match kws with
        | [] => gd (args.all noStar) (opt1 (.call f) (compEs n c args))
        | _ :: _ => gd (args.all noStar && !args.isEmpty && decide (kws.map (·.arg) = (ps.drop args.length).map some)) (opt2 (.callk f) (compEs n c args) (compKs n c kws))
      | some (.cls d) => match kws with
        | [] => gd (args.all noStar) (opt1 (.mk d) (compEs n c args))
        | _ :: _ => none
      | some .blt => match kws with
        | _ :: _ => none
        | [] => match args with
          | [a, .Name t _] => match decide (x = "isinstance") with
            | true => match glName c t with
              | some .blt => opt2 .isi (compE n c a) (tyOf t)
              | _ => none
            | false => gd (args.all noStar) (opt2 .bi (biOf x args.length) (compEs n c args))
          | [a] => match decide (x = "list") with
            | true => gd (noStar a) (opt1 (fun y => if bxAt c p then .bx (.list y) else .fr (.list y)) (compE n c a))
            | false => gd (noStar a) (opt2 .bi (biOf x 1) (compEs n c args))
          | [] => none
          | _ => gd (args.all noStar) (opt2 .bi (biOf x args.length) (compEs n c args))
      | _ => none
    | .Call (.Attribute o m ap) args [] p => gd (noSuper o && (ap.endLine == p.line) && args.all noStar && decide (args.length < 30)) (match isBm m with
      | true => opt3 .bm (compE n c o) (bmOf m args.length) (compEs n c args)
      | false => opt3 .mth (compE n c o) (lk c.fld m) (compEs n c args))
    | _ => none
def compEs : Nat → Ctx → List Expr → Option Es
  | 0, _, _ => none
  | _ + 1, _, [] => some .nil
  | n + 1, c, e :: es => gd (noStar e) (opt2 .cons (compE n c e) (compEs n c es))
def compKs : Nat → Ctx → List Keyword → Option Es
  | 0, _, _ => none
  | _ + 1, _, [] => some .nil
  | n + 1, c, ⟨_, e, _⟩ :: es => opt2 .cons (compE n c e) (compKs n c es)
def compB : Nat → Ctx → BoolOp → List Expr → Option E
  | 0, _, _, _ => none
  | _ + 1, _, _, [] => none
  | n + 1, c, _, [a] => gd (tstOk a) (compE n c a)
  | n + 1, c, op, a :: b :: r => gd (tstOk a) (opt2 (match op with | .And => .and | .Or => .or) (compE n c a) (compB n c op (b :: r)))
def compO : Nat → Ctx → Option Expr → Option Oe
  | 0, _, _ => none
  | _ + 1, _, none => some .none
  | n + 1, c, some e => opt1 .some (compE n c e)
def compI : Nat → Ctx → Bool → Expr → Option Wk
  | 0, _, _, _ => none
  | n + 1, c, tup, e => match e with
    | .Call (.Name x _) [a] [] _ => match glName c x with
      | some .blt => match decide (x = "range"), decide (x = "enumerate") with
        | true, _ => gd (noStar a) (opt1 .rng (compE n c a))
        | false, true => none
        | false, false => opt1 .val (compE n c e)
      | _ => opt1 .val (compE n c e)
    | .Call (.Name x _) [a, b] [] _ => match glName c x with
      | some .blt => match decide (x = "range"), decide (x = "zip") with
        | true, _ => gd (noStar a && noStar b) (opt2 .rng2 (compE n c a) (compE n c b))
        | false, true => none
        | false, false => opt1 .val (compE n c e)
      | _ => opt1 .val (compE n c e)
    | e => opt1 .val (compE n c e)
def compLc : Nat → Ctx → Expr → Expr → Expr → List Expr → Scope → Option F
  | 0, _, _, _, _, _, _ => none
  | n + 1, c, elt, tg, it, ifs, sc => match tgOf (c.blk sc) tg with
    | none => none
    | some t => gd (blkC c.N c.sc sc ((tgNames tg).zip t.slots) && decide (t.slots.length = (tgNames tg).length)) (match ifs with
      | [] => opt2 (.lc0 t) (compI n c (isTupE tg) it) (compE n (c.blk sc) elt)
      | [q] => gd (tstOk q) (opt3 (.lc t) (compI n c (isTupE tg) it) (compE n (c.blk sc) q) (compE n (c.blk sc) elt))
      | _ => none)
end
def isLc : Expr → Bool
  | .ListComp .. => true
  | _ => false
/-- a comprehension given to a name -/
def lcName (c : Ctx) (x : Str) (px : Pos) (e : Expr) : Bool := match e with
  | .ListComp _ _ sc p => isKind c.sc x .local && (px.line == p.line) && !(sc.names.any fun (n, k) => n == x && (k == .local || k == .cell))
  | _ => false
mutual
def compS : Nat → Ctx → Stmt → Option S
  | 0, _, _ => none
  | n + 1, c, s => match s with
    | .Assign [.Name x px] e _ => match isLc e with
      | true => gd (lcName c x px e) (opt2 (fun i m => .set (.v i) m) (wrSlot c x) (compE n c e))
      | false => gd (noComp e) (opt2 (fun i m => .set (.v i) m) (wrSlot c x) (compE n c e))
    | .Assign [.Tuple ts k tp] e _ => gd (noComp e && !isTupE e) (opt2 .set (tgOf c (.Tuple ts k tp)) (compE n c e))
    | .Assign [.Attribute o f _] e _ => opt3 .fld (compE n c o) (lk c.fld f) (compE n c e)
    | .Assign [.Subscript o i _] e _ => gd (noSl i) (opt3 .sub (compE n c o) (compE n c i) (compE n c e))
    | .AugAssign (.Name x _) op e _ => opt3 .aug (wrSlot c x) (op2Of op) (compE n c e)
    | .AugAssign (.Attribute o f _) op e _ => opt2 (fun (g : E → S) (x : E) => g x) (opt3 (fun o f op => (fun x => S.fldA o f op x)) (compE n c o) (lk c.fld f) (op2Of op)) (compE n c e)
    | .Expr e _ => gd (noComp e) (opt1 .ex (compE n c e))
    | .Return (some e) _ => opt1 .ret (compE n c e)
    | .Return none _ => some .retN
    | .If t a b _ => gd (tstOk t) (opt3 .ite (compE n c t) (compSs n c a) (compSs n c b))
    | .For tg it b [] _ => gd (noSet it) (opt3 .for (tgOf c tg) (compI n c (isTupE tg) it) (compSs n c b))
    | .While t b [] _ => gd (tstOk t) (opt2 .while (compE n c t) (compSs n c b))
    | .Break _ => some .brk
    | .Continue _ => some .cont
    | .Pass _ => some .pass
    | _ => none
def compSs : Nat → Ctx → List Stmt → Option Ss
  | 0, _, _ => none
  | _ + 1, _, [] => some .nil
  | n + 1, c, s :: r => opt2 .cons (compS n c s) (compSs n c r)
end
end G

set_option maxHeartbeats 4000000
/-! GSnd: what the checked compiler gives is what the model does: the parts. -/
namespace G
open PySem PySem.Spec PyProof.Rows L2
/-- what a module's name is -/
def GOk (X : Cx) (T : Tie) (P : Prog) (call : Nat → List Val → LH → Res Val) (k : Nat) (fa : Nat → Addr) (x : Str) : GV → Prop
  | .fn f qs => ∃ d fd ps, P.fn f = some d ∧ FnOk X.prog X.w X.K X.mg X.base (L2.CX X.prog X.w) k (fa f) fd ps (spC X.K T d.np (call f)) ∧ Binds X.K fd ps [] ∧ PySem.W.keepIn X.K (.ref (fa f)) = true ∧ X.mg x = some (.ref (fa f)) ∧ (∀ j, KBind X.K fd ps (qs.drop j))
  | .cls c => ∃ f d fd ps, P.init c = some f ∧ P.fn f = some d ∧ FnOk X.prog X.w X.K X.mg X.base (L2.CX X.prog X.w) k (fa f) fd ps (spC X.K T d.np (call f)) ∧ Binds X.K fd ps [] ∧ Mk X.K (T.ca c) (fa f) ∧ T.has c = true ∧ X.mg x = some (.ref (T.ca c))
  | .con i => ∃ v u z, P.con i = some z ∧ X.mg x = some u ∧ RelV v u ∧ ∀ ι G H h, Rep X.K T ι G H h → RV X.K ι G H v z
  | .blt => X.mg x = none
structure Wd (X : Cx) (T : Tie) (P : Prog) (call : Nat → List Val → LH → Res Val) (k : Nat) (fa : Nat → Addr) (gl : List (Str × GV)) (fl : List (Str × Nat)) : Prop where
  mo : MethOk X T P call k fa
  co : ClsOk X.K T P
  fld : ∀ q ∈ fl, T.nm q.2 = q.1
  glo : ∀ q ∈ gl, GOk X T P call k fa q.1 q.2
/-- where one stands -/
structure At (X : Cx) (c : Ctx) (T : Tie) (M : Pm) (k : Nat) (fa : Nat → Addr) : Prop where
  N : X.N = c.N
  nd : X.N.Nodup
  sc : X.env.scope = c.sc
  fn : ∀ x, (c.fnAll || c.fnc.any (fun y => decide (y = x))) = true → X.fn x = true
  calm : X.calm = true
  wd : Wd X T M.P M.call k fa c.gl c.fld
  rm : Room (k + 1) X.A
section
variable {X : Cx} {c : Ctx} {T : Tie} {M : Pm} {k : Nat} {fa : Nat → Addr} {W : WX}
theorem At.hu (a : At X c T M k fa) : X.A.units + 65 < cLine := by have := a.rm.un; omega
theorem isKind_ok {sc : Scope} {x : Str} {q : NameKind} (h : isKind sc x q = true) : sc.names.lookup x = some q := of_decide_eq_true h
theorem rd_ok (a : At X c T M k fa) {x : Str} {i : Nat} (h : rdSlot c x = some i) : X.N[i]? = some x ∧ Vis X.env.scope x ∧ (x == ("__debug__" : Str)) = false ∧ (x == ("__classdict__" : Str)) = false := by
  obtain ⟨h1, h2⟩ := gd_some h
  simp only [Bool.and_eq_true, Bool.not_eq_true'] at h1
  refine ⟨by rw [a.N]; exact ixS_some h2, by rw [a.sc]; exact visB_ok h1.1.1, h1.1.2, h1.2⟩
theorem wr_ok (a : At X c T M k fa) {x : Str} {i : Nat} (h : wrSlot c x = some i) : X.N[i]? = some x ∧ Loc X.env.scope x ∧ (X.fn x = true ∨ X.env.scope.names.lookup x = some .local) := by
  obtain ⟨h1, h2⟩ := gd_some h
  refine ⟨by rw [a.N]; exact ixS_some h2, ?_⟩
  rw [Bool.or_eq_true, Bool.and_eq_true] at h1
  rw [a.sc]
  rcases h1 with h1 | ⟨h1, h3⟩
  · exact ⟨.inl (isKind_ok h1), .inr (isKind_ok h1)⟩
  · exact ⟨.inr (isKind_ok h1), .inl (a.fn x h3)⟩
theorem gl_ok (a : At X c T M k fa) {x : Str} {g : GV} (h : glName c x = some g) : Gl X x ∧ (x == ("__debug__" : Str)) = false ∧ x ≠ "__name__" ∧ GOk X T M.P M.call k fa x g := by
  obtain ⟨h1, h2⟩ := gd_some h
  simp only [Bool.and_eq_true, Bool.not_eq_true'] at h1
  refine ⟨?_, h1.1.2, ?_, a.wd.glo _ (lk_mem h2)⟩
  · show X.env.kindOf x = _
    unfold PySem.Env.kindOf
    rw [a.sc]
    exact isKind_ok h1.1.1
  · rintro rfl
    have := h1.2
    simp at this
/-! ### truth -/
theorem truth_ok {ι : Io} {G : Gh} {H : Hp} {h : LH} {x : Val} {v : V} {b : Bool} {K : PySem.W.Frag} (R : Rep K T ι G H h) (rv : RV K ι G H v x) (e : truth h x = some b) : TruV K v H b := by
  have emp : ∀ {vs : List V} {xs : List Val}, RVs K ι G H vs xs → vs.isEmpty = xs.isEmpty := fun r => by cases r <;> rfl
  cases rv with
  | non => cases e; rfl
  | bl => cases e; rfl
  | int => cases e; rfl
  | str s =>
    simp only [truth] at e
    split at e
    · rename_i hl; cases e; exact ⟨hl, rfl⟩
    · cases e
  | tup ha rs => cases e; exact .inr (.inl ⟨_, ha.sq, by rw [emp rs]⟩)
  | lst ha _ rs => cases e; exact .inl ⟨_, SqL.of ha, by rw [emp rs]⟩
  | rol ha rs => cases e; exact .inl ⟨_, ha.sq, by rw [emp rs]⟩
  | ref hi =>
    simp only [truth] at e
    split at e
    · rename_i xs ho
      cases e
      cases R.obj hi ho with
      | lst hp rs => exact .inl ⟨_, SqL.of hp, by rw [emp rs]⟩
    · rename_i kvs ho
      cases e
      cases R.obj hi ho with
      | dk hp rs =>
        refine .inr (.inr ⟨_, hp, ?_⟩)
        cases rs <;> rfl
    · cases e
theorem pt_of {e : Expr} {m : E} (he : PE X e (tE X.K T W fun env h => ev M env m h)) (hp : plainTest e = true) : PT X e (tT X.K T W fun env h => evT M env m h) := by
  refine PT.imp (pt_truth he (plainTest_ok hp)) ?_
  refine go1 (Rz := RId) fun σ ι G H h x v Q R rv F => ?_
  obtain ⟨b, hb, F⟩ := Fin.ofOpt F
  exact ⟨b, truth_ok R rv hb, F.ok R rfl⟩
/-- a test whose value is a bool -/
theorem tst_bl {m : E} {g : Env → LH → Res Bool} (hg : ∀ env h, ev M env m h = (g env h).bind fun b h1 => .ok (.bl b) h1) : ∀ σ H Q, tT X.K T W (fun env h => evT M env m h) σ H Q → tT X.K T W g σ H Q := by
  rintro σ H Q ⟨ι, G, h, env, R, E, F⟩
  refine ⟨ι, G, h, env, R, E, ?_⟩
  have : evT M env m h = g env h := by
    unfold evT
    rw [hg, bind_assoc]
    cases g env h with
    | ok b h1 => rfl
    | ex => rfl
    | bad => rfl
  rw [← this]
  exact F
/-! ### leaves -/
theorem v_val {i : Nat} : ∀ σ H Q, tE X.K T W (fun env h => ev M env (.v i) h) σ H Q → tVar i σ H Q := by
  rintro σ H Q ⟨ι, G, h, env, R, E, F⟩
  simp only [ev] at F
  split at F
  · rename_i x hx
    obtain ⟨v, hv, rv⟩ := E.at_ i x hx
    exact ⟨v, hv, F.ok R rv⟩
  · exact F.elim
theorem c_val {z : Val} {v : V} (hr : ∀ ι G H, RV X.K ι G H v z) : ∀ σ H Q, tE X.K T W (fun env h => ev M env (.c z) h) σ H Q → tC v σ H Q := by
  rintro σ H Q ⟨ι, G, h, env, R, E, F⟩
  exact Fin.ok (x := z) F R (hr ι G H)
theorem g_val {i : Nat} {z : Val} {v : V} (hz : M.P.con i = some z) (hr : ∀ ι G H h, Rep X.K T ι G H h → RV X.K ι G H v z) : ∀ σ H Q, tE X.K T W (fun env h => ev M env (.g i) h) σ H Q → tC v σ H Q := by
  rintro σ H Q ⟨ι, G, h, env, R, E, F⟩
  simp only [ev, hz, ofOpt_some] at F
  exact Fin.ok (x := z) F R (hr ι G H h R)
/-! ### targets -/
theorem PG.imp {tg : Expr} {t t' : TG} (p : PG X tg t) (h : ∀ v σ H Q, t' v σ H Q → t v σ H Q) : PG X tg t' := ⟨fun pins s σ H v u Q I r q => p.run pins s σ H v u Q I r (h v σ H Q q)⟩
theorem PGs.imp {tg : List Expr} {t t' : TGs} (p : PGs X tg t) (h : ∀ v σ H Q, t' v σ H Q → t v σ H Q) : PGs X tg t' := ⟨fun pins s σ H v u Q I r q => p.run pins s σ H v u Q I r (h v σ H Q q)⟩
theorem PG.or {tg : Expr} {t t' : TG} (p : PG X tg t) (q : PG X tg t') : PG X tg (fun v σ H Q => t v σ H Q ∨ t' v σ H Q) := ⟨fun pins s σ H v u Q I r h => by
  rcases h with h | h
  · exact p.run pins s σ H v u Q I r h
  · exact q.run pins s σ H v u Q I r h⟩
theorem slots_ok (a : At X c T M k fa) : ∀ {es : List Expr} {is : List Nat}, slotsOf c es = some is →
    PGs X es (fun vs σ H Q => vs.length = is.length ∧ Q ((is.zip vs).foldl (fun σ p => σ.set p.1 (some p.2)) σ) H) ∧ (assignEach es X.env).length = is.length ∧ (assignEach es X.env).findIdx? (·.1) = none
  | [], is, h => by
    cases h
    exact ⟨PGs.imp pgs_nil fun vs σ H Q ⟨h1, h2⟩ => ⟨List.length_eq_zero_iff.mp h1, by cases List.length_eq_zero_iff.mp h1; exact h2⟩, rfl, rfl⟩
  | e :: es, is, h => by
    obtain ⟨i, is', h1, h2, rfl⟩ := opt2_some h
    obtain ⟨i1, i2, i3⟩ := slots_ok a h2
    cases e with
    | Name x p =>
      obtain ⟨w1, w2, w3⟩ := wr_ok a h1
      refine ⟨PGs.imp (pgs_cons (pg_name (pos := p) a.nd w1 w2 w3) i1) fun vs σ H Q ⟨h1, h2⟩ => ?_, ?_, ?_⟩
      · cases vs with
        | nil => simp at h1
        | cons v vs => exact ⟨v, vs, rfl, by simpa using h1, h2⟩
      · show (assignEach es X.env).length + 1 = _
        rw [i2]; rfl
      · show List.findIdx? (·.1) ((false, assign (.Name x p) X.env) :: assignEach es X.env) = none
        rw [List.findIdx?_cons]
        simp [i3]
    | _ => cases h1
theorem tg_ok (a : At X c T M k fa) {tg : Expr} {t : Tg} (h : tgOf c tg = some t) : PG X tg (gTg X.K t) := by
  cases tg with
  | Name x p =>
    obtain ⟨i, h1, rfl⟩ := opt1_some h
    obtain ⟨w1, w2, w3⟩ := wr_ok a h1
    exact pg_name a.nd w1 w2 w3
  | Tuple es q p =>
    obtain ⟨is, h1, rfl⟩ := opt1_some h
    obtain ⟨i1, i2, i3⟩ := slots_ok a h1
    exact PG.or (pg_tup a.calm i1 i2 i3) (pg_lst a.calm i1 i2 i3)
  | _ => cases h
end
end G

set_option maxHeartbeats 4000000
/-! GSnd2: the rules' wishes by the evaluator's. -/
namespace G
open PySem PySem.Spec PyProof.Rows L2
section
variable {X : Cx} {T : Tie} {M : Pm} {W : WX} {K : PySem.W.Frag} {a b d t : E} {es : Es}
theorem neg_val : ∀ σ H Q, tE K T W (fun env h => ev M env (.neg a) h) σ H Q → tUn (rU fun i => .int (-i)) (tE K T W fun env h => ev M env a h) σ H Q :=
  go1 fun σ ι G H h x v Q R rv F => by
    cases rv with
    | int i => exact ⟨i, rfl, Fin.ok (x := Val.int (-i)) F R (.int _)⟩
    | _ => exact F.elim
theorem not_val : ∀ σ H Q, tE K T W (fun env h => ev M env (.not a) h) σ H Q → tNotV (tE K T W fun env h => ev M env a h) σ H Q :=
  go1 fun σ ι G H h x v Q R rv F => by
    cases rv with
    | bl i => exact ⟨i, rfl, Fin.ok (x := Val.bl (!i)) F R (.bl _)⟩
    | _ => exact F.elim
theorem not_tst : ∀ σ H Q, tT K T W (fun env h => evT M env (.not a) h) σ H Q → tNot (tT K T W fun env h => evT M env a h) σ H Q := by
  rintro σ H Q ⟨ι, G, h, env, R, E, F⟩
  refine ⟨ι, G, h, env, R, E, ?_⟩
  have F : Fin K T RId W σ ι G H (((ev M env a h).bind fun x h1 => match x with | .bl t => .ok (.bl (!t)) h1 | _ => .bad).bind fun x h1 => ofOpt (truth h1 x) h1) Q := F
  show Fin K T RId W σ ι G H ((ev M env a h).bind fun x h1 => ofOpt (truth h1 x) h1) _
  revert F
  cases ev M env a h with
  | bad => exact fun F => F
  | ex c fs h1 => exact fun F => F
  | ok x h1 =>
    cases x with
    | bl t =>
      intro F ι' H' v e rp rv
      have rv : v = t := rv
      subst rv
      exact F ι' H' (!v) e rp rfl
    | _ => exact fun F => F.elim
theorem and_val : ∀ σ H Q, tE K T W (fun env h => ev M env (.and a b) h) σ H Q → tAndV (tE K T W fun env h => ev M env a h) (tE K T W fun env h => ev M env b h) σ H Q := by
  rintro σ H Q ⟨ι, G, h, env, R, E, F⟩
  refine ⟨ι, G, h, env, R, E, (Fin.bind (R := RV K) F).imp ?_⟩
  rintro v H1 ⟨ι1, h1, x, e1, R1, rv, F1⟩
  cases rv with
  | bl i =>
    refine ⟨i, rfl, ?_⟩
    cases i with
    | true => exact ⟨ι1, G, h1, env, R1, E.mono e1, F1⟩
    | false => exact Fin.ok (x := Val.bl false) F1 R1 (.bl _)
  | _ => exact F1.elim
theorem or_val : ∀ σ H Q, tE K T W (fun env h => ev M env (.or a b) h) σ H Q → tOrV (tE K T W fun env h => ev M env a h) (tE K T W fun env h => ev M env b h) σ H Q := by
  rintro σ H Q ⟨ι, G, h, env, R, E, F⟩
  refine ⟨ι, G, h, env, R, E, (Fin.bind (R := RV K) F).imp ?_⟩
  rintro v H1 ⟨ι1, h1, x, e1, R1, rv, F1⟩
  cases rv with
  | bl i =>
    refine ⟨i, rfl, ?_⟩
    cases i with
    | false => exact ⟨ι1, G, h1, env, R1, E.mono e1, F1⟩
    | true => exact Fin.ok (x := Val.bl true) F1 R1 (.bl _)
  | _ => exact F1.elim
theorem and_tst : ∀ σ H Q, tT K T W (fun env h => evT M env (.and a b) h) σ H Q → tAnd (tT K T W fun env h => evT M env a h) (tT K T W fun env h => evT M env b h) σ H Q := by
  rintro σ H Q ⟨ι, G, h, env, R, E, F⟩
  refine ⟨ι, G, h, env, R, E, ?_⟩
  have F : Fin K T RId W σ ι G H (((ev M env a h).bind fun x h1 => match x with | .bl t => if t = true then ev M env b h1 else .ok (.bl false) h1 | _ => .bad).bind fun x h1 => ofOpt (truth h1 x) h1) Q := F
  show Fin K T RId W σ ι G H ((ev M env a h).bind fun x h1 => ofOpt (truth h1 x) h1) _
  revert F
  cases ev M env a h with
  | bad => exact fun F => F
  | ex c fs h1 => exact fun F => F
  | ok x h1 =>
    cases x with
    | bl t =>
      intro F ι' H' v e rp rv
      have rv : v = t := rv
      subst rv
      cases v with
      | true => exact ⟨ι', G, h1, env, rp, E.mono e, Fin.mono e F⟩
      | false => exact F ι' H' false e rp rfl
    | _ => exact fun F => F.elim
theorem or_tst : ∀ σ H Q, tT K T W (fun env h => evT M env (.or a b) h) σ H Q → tOr (tT K T W fun env h => evT M env a h) (tT K T W fun env h => evT M env b h) σ H Q := by
  rintro σ H Q ⟨ι, G, h, env, R, E, F⟩
  refine ⟨ι, G, h, env, R, E, ?_⟩
  have F : Fin K T RId W σ ι G H (((ev M env a h).bind fun x h1 => match x with | .bl t => if t = true then .ok (.bl true) h1 else ev M env b h1 | _ => .bad).bind fun x h1 => ofOpt (truth h1 x) h1) Q := F
  show Fin K T RId W σ ι G H ((ev M env a h).bind fun x h1 => ofOpt (truth h1 x) h1) _
  revert F
  cases ev M env a h with
  | bad => exact fun F => F
  | ex c fs h1 => exact fun F => F
  | ok x h1 =>
    cases x with
    | bl t =>
      intro F ι' H' v e rp rv
      have rv : v = t := rv
      subst rv
      cases v with
      | false => exact ⟨ι', G, h1, env, rp, E.mono e, Fin.mono e F⟩
      | true => exact F ι' H' true e rp rfl
    | _ => exact fun F => F.elim
theorem ite_val : ∀ σ H Q, tE K T W (fun env h => ev M env (.ite t a b) h) σ H Q → tIf (tT K T W fun env h => evT M env t h) (tE K T W fun env h => ev M env a h) (tE K T W fun env h => ev M env b h) σ H Q := by
  rintro σ H Q ⟨ι, G, h, env, R, E, F⟩
  have F : Fin K T (RV K) W σ ι G H ((evT M env t h).bind fun t h2 => if t = true then ev M env a h2 else ev M env b h2) Q := by
    unfold evT
    rw [bind_assoc]
    exact F
  refine ⟨ι, G, h, env, R, E, (Fin.bind (R := RId) F).imp ?_⟩
  rintro v H1 ⟨ι1, h1, x, e1, R1, rv, F1⟩
  have rv : v = x := rv
  subst rv
  cases v with
  | true => exact ⟨ι1, G, h1, env, R1, E.mono e1, F1⟩
  | false => exact ⟨ι1, G, h1, env, R1, E.mono e1, F1⟩
/-- a test by a value that is a bool -/
theorem tst_val {m : E} (hb : ∀ env h x h1, ev M env m h = .ok x h1 → ∃ b, x = .bl b) : ∀ σ H Q, tT K T W (fun env h => evT M env m h) σ H Q → tE K T W (fun env h => ev M env m h) σ H fun x H' => ∃ k, x = .bl k ∧ Q k H' := by
  rintro σ H Q ⟨ι, G, h, env, R, E, F⟩
  refine ⟨ι, G, h, env, R, E, ?_⟩
  have F : Fin K T RId W σ ι G H ((ev M env m h).bind fun x h1 => ofOpt (truth h1 x) h1) Q := F
  have hb := hb env h
  show Fin K T (RV K) W σ ι G H (ev M env m h) _
  revert F hb
  cases ev M env m h with
  | bad => exact fun F _ => F
  | ex c fs h1 => exact fun F _ => F
  | ok x h1 =>
    intro F hb
    obtain ⟨b, rfl⟩ := hb x h1 rfl
    intro ι' H' v e rp rv
    cases rv
    exact ⟨b, rfl, F ι' H' b e rp rfl⟩
theorem cmp_bl {o : Cm} : ∀ env h x h1, ev M env (.cmp o a b) h = .ok x h1 → ∃ b, x = .bl b := by
  intro env h x h1 e
  have e : ((ev M env a h).bind fun x h1 => (ev M env b h1).bind fun y h2 => ofOpt ((cmpV h2 o x y).map .bl) h2) = .ok x h1 := e
  revert e
  cases ev M env a h with
  | bad => intro e; cases e
  | ex => intro e; cases e
  | ok y h2 =>
    simp only [bind_ok]
    cases ev M env b h2 with
    | bad => intro e; cases e
    | ex => intro e; cases e
    | ok z h3 =>
      simp only [bind_ok]
      cases cmpV h3 o y z with
      | none => intro e; cases e
      | some k => intro e; cases e; exact ⟨k, rfl⟩
theorem cmp2_bl {o p : Cm} : ∀ env h x h1, ev M env (.cmp2 o p a b d) h = .ok x h1 → ∃ b, x = .bl b := by
  intro env h x h1 e
  have e : ((ev M env a h).bind fun x h1 => (ev M env b h1).bind fun y h2 => (ofOpt (cmpV h2 o x y) h2).bind fun t h3 =>
      if t = true then (ev M env d h3).bind fun z h4 => ofOpt ((cmpV h4 p y z).map .bl) h4 else .ok (.bl false) h3) = .ok x h1 := e
  revert e
  cases ev M env a h with
  | bad => intro e; cases e
  | ex => intro e; cases e
  | ok y h2 =>
    simp only [bind_ok]
    cases ev M env b h2 with
    | bad => intro e; cases e
    | ex => intro e; cases e
    | ok z h3 =>
      simp only [bind_ok]
      cases cmpV h3 o y z with
      | none => intro e; cases e
      | some k =>
        simp only [ofOpt_some, bind_ok]
        cases k with
        | false => intro e; cases e; exact ⟨false, rfl⟩
        | true =>
          simp only [if_true]
          cases ev M env d h3 with
          | bad => intro e; cases e
          | ex => intro e; cases e
          | ok w h4 =>
            simp only [bind_ok]
            cases cmpV h4 p z w with
            | none => intro e; cases e
            | some k => intro e; cases e; exact ⟨k, rfl⟩
theorem cmp_v {o : Cm} : ∀ σ H Q, tE K T W (fun env h => ev M env (.cmp o a b) h) σ H Q → tOp (rCm K o) (tE K T W fun env h => ev M env a h) (tE K T W fun env h => ev M env b h) σ H Q :=
  go2 fun σ ι G H h x y v w Q R rv rw F => cm_val o R rv rw F
theorem bin_v {o : Op2} : ∀ σ H Q, tE K T W (fun env h => ev M env (.bin o a b) h) σ H Q → tOp (rOp2 K o) (tE K T W fun env h => ev M env a h) (tE K T W fun env h => ev M env b h) σ H Q :=
  go2 fun σ ι G H h x y v w Q R rv rw F => op2_val o R rv rw F
theorem ix_v : ∀ σ H Q, tE K T W (fun env h => ev M env (.ix a b) h) σ H Q → tOp (rIxA K) (tE K T W fun env h => ev M env a h) (tE K T W fun env h => ev M env b h) σ H Q :=
  go2 fun σ ι G H h x y v w Q R rv rw F => ix_val R rv rw F
theorem cmp2_v {o p : Cm} : ∀ σ H Q, tE K T W (fun env h => ev M env (.cmp2 o p a b d) h) σ H Q → tChain (rCm K o) (rCm K p) (tE K T W fun env h => ev M env a h) (tE K T W fun env h => ev M env b h) (tE K T W fun env h => ev M env d h) σ H Q := by
  rintro σ H Q ⟨ι, G, h, env, R, E, F⟩
  refine ⟨ι, G, h, env, R, E, (Fin.bind (R := RV K) F).imp ?_⟩
  rintro v H1 ⟨ι1, h1, x, e1, R1, rv, F1⟩
  refine ⟨ι1, G, h1, env, R1, E.mono e1, (Fin.bind (R := RV K) F1).imp ?_⟩
  rintro w H2 ⟨ι2, h2, y, e2, R2, rw, F2⟩
  obtain ⟨t, ht, F3⟩ : ∃ t, cmpV h2 o x y = some t ∧ Fin K T (RV K) W σ ι2 G H2 (if t = true then (ev M env d h2).bind fun z h4 => ofOpt ((cmpV h4 p y z).map .bl) h4 else .ok (.bl false) h2) Q := by
    revert F2
    cases cmpV h2 o x y with
    | none => exact fun F => F.elim
    | some t => exact fun F => ⟨t, rfl, F⟩
  refine cm_val (T := T) (W := W) (σ := σ) (ι := ι2) (G := G) (h := h2) o R2 (rv.mono e2) rw ?_
  rw [ht]
  intro ι3 H3 u e3 R3 ru
  cases ru
  refine ⟨t, rfl, ?_⟩
  have F3 := Fin.mono e3 F3
  cases t with
  | false => exact Fin.ok (x := Val.bl false) F3 R3 (.bl _)
  | true =>
    have F3 : Fin K T (RV K) W σ ι3 G H3 ((ev M env d h2).bind fun z h4 => ofOpt ((cmpV h4 p y z).map .bl) h4) Q := F3
    refine ⟨ι3, G, h2, env, R3, E.mono ((e1.trans e2).trans e3), (Fin.bind (R := RV K) F3).imp ?_⟩
    rintro u H4 ⟨ι4, h4, z, e4, R4, rz, F4⟩
    exact cm_val p R4 ((rw.mono e3).mono e4) rz F4
/-! ### lists of expressions -/
theorem nil_v : ∀ σ H (Q : List V → Hp → Prop), tA K T W (fun env h => evs M env .nil h) σ H Q → tNil σ H Q := by
  rintro σ H Q ⟨ι, G, h, env, R, E, F⟩
  exact Fin.ok (x := ([] : List Val)) F R .nil
theorem cons_v : ∀ σ H (Q : List V → Hp → Prop), tA K T W (fun env h => evs M env (.cons a es) h) σ H Q → tCons (tE K T W fun env h => ev M env a h) (tA K T W fun env h => evs M env es h) σ H Q := by
  rintro σ H Q ⟨ι, G, h, env, R, E, F⟩
  refine ⟨ι, G, h, env, R, E, (Fin.bind (R := RV K) F).imp ?_⟩
  rintro v H1 ⟨ι1, h1, x, e1, R1, rv, F1⟩
  refine ⟨ι1, G, h1, env, R1, E.mono e1, (Fin.bind (R := RVs K) F1).imp ?_⟩
  rintro vs H2 ⟨ι2, h2, xs, e2, R2, rs, F2⟩
  exact Fin.ok (x := x :: xs) F2 R2 (.cons (rv.mono e2) rs)
theorem tup_v : ∀ σ H Q, tE K T W (fun env h => ev M env (.tup es) h) σ H Q → tTup (tA K T W fun env h => evs M env es h) σ H Q := by
  rintro σ H Q ⟨ι, G, h, env, R, E, F⟩
  refine ⟨ι, G, h, env, R, E, (Fin.bind (R := RVs K) F).imp ?_⟩
  rintro vs H2 ⟨ι2, h2, xs, e2, R2, rs, F2⟩
  split at F2
  · rename_i hl
    exact ⟨by rw [rs.length]; exact hl, F2.tup R2 rs⟩
  · exact F2.elim
theorem disp_v : ∀ σ H Q, tF K T W (fun env h => evF M env (.disp es) h) σ H Q → tLst (tA K T W fun env h => evs M env es h) σ H Q := by
  rintro σ H Q ⟨ι, G, h, env, R, E, F⟩
  refine ⟨ι, G, h, env, R, E, (FinL.bind (R := RVs K) F).imp ?_⟩
  rintro vs H2 ⟨ι2, h2, xs, e2, R2, rs, F2⟩
  split at F2
  · rename_i hl
    exact ⟨by rw [rs.length]; exact hl, F2.new R2 rs⟩
  · exact F2.elim
theorem cat_v : ∀ σ H Q, tF K T W (fun env h => evF M env (.cat a b) h) σ H Q → tOp rCat (tE K T W fun env h => ev M env a h) (tE K T W fun env h => ev M env b h) σ H Q :=
  goL2 fun σ ι G H h x y v w Q R rv rw F => cat_val R rv rw F
theorem rep_v : ∀ σ H Q, tF K T W (fun env h => evF M env (.rep a b) h) σ H Q → tOp rRep (tE K T W fun env h => ev M env a h) (tE K T W fun env h => ev M env b h) σ H Q :=
  goL2 fun σ ι G H h x y v w Q R rv rw F => by
    cases y with
    | int k => exact rep_val R rv rw F
    | _ => exact F.elim
theorem part_none : ∀ σ H (Q : Option Int → Hp → Prop), tO K T W (fun env h => evO M env .none h) σ H Q → tNoPart σ H Q := by
  rintro σ H Q ⟨ι, G, h, env, R, E, F⟩
  exact Fin.ok (x := (none : Option Int)) F R rfl
theorem part_some : ∀ σ H (Q : Option Int → Hp → Prop), tO K T W (fun env h => evO M env (.some a) h) σ H Q → tPart (tE K T W fun env h => ev M env a h) σ H Q :=
  go1 (Rz := RId) fun σ ι G H h x v Q R rv F => by
    cases rv with
    | int i => exact ⟨i, rfl, Fin.ok (x := some i) F R rfl⟩
    | _ => exact F.elim
theorem sl_v {l u : Oe} : ∀ σ H Q, tE K T W (fun env h => ev M env (.sl a l u) h) σ H Q → tSl (rSlV K) (tE K T W fun env h => ev M env a h) (tO K T W fun env h => evO M env l h) (tO K T W fun env h => evO M env u h) σ H Q := by
  rintro σ H Q ⟨ι, G, h, env, R, E, F⟩
  refine ⟨ι, G, h, env, R, E, (Fin.bind (R := RV K) F).imp ?_⟩
  rintro v H1 ⟨ι1, h1, x, e1, R1, rv, F1⟩
  refine ⟨ι1, G, h1, env, R1, E.mono e1, (Fin.bind (R := RId) F1).imp ?_⟩
  rintro l2 H2 ⟨ι2, h2, l1, e2, R2, rl, F2⟩
  have rl : l2 = l1 := rl
  subst rl
  refine ⟨ι2, G, h2, env, R2, (E.mono e1).mono e2, (Fin.bind (R := RId) F2).imp ?_⟩
  rintro u2 H3 ⟨ι3, h3, u1, e3, R3, ru, F3⟩
  have ru : u2 = u1 := ru
  subst ru
  exact sl_val R3 ((rv.mono e2).mono e3) F3
theorem lsl_v {l u : Oe} : ∀ σ H Q, tF K T W (fun env h => evF M env (.lslice a l u) h) σ H Q → tSl (rSlL K) (tE K T W fun env h => ev M env a h) (tO K T W fun env h => evO M env l h) (tO K T W fun env h => evO M env u h) σ H Q := by
  rintro σ H Q ⟨ι, G, h, env, R, E, F⟩
  refine ⟨ι, G, h, env, R, E, (FinL.bind (R := RV K) F).imp ?_⟩
  rintro v H1 ⟨ι1, h1, x, e1, R1, rv, F1⟩
  refine ⟨ι1, G, h1, env, R1, E.mono e1, (FinL.bind (R := RId) F1).imp ?_⟩
  rintro l2 H2 ⟨ι2, h2, l1, e2, R2, rl, F2⟩
  have rl : l2 = l1 := rl
  subst rl
  refine ⟨ι2, G, h2, env, R2, (E.mono e1).mono e2, (FinL.bind (R := RId) F2).imp ?_⟩
  rintro u2 H3 ⟨ι3, h3, u1, e3, R3, ru, F3⟩
  have ru : u2 = u1 := ru
  subst ru
  have rv := (rv.mono e2).mono e3
  cases x with
  | tup _ => exact F3.elim
  | _ => exact lsl_val R3 rv F3
theorem rev_v : ∀ σ H Q, tE K T W (fun env h => ev M env (.rev a) h) σ H Q → tRevA K (tE K T W fun env h => ev M env a h) σ H Q :=
  go1 fun σ ι G H h x v Q R rv F => by
    obtain ⟨z, hz, F⟩ := F.ofOpt
    cases rv with
    | tup ha rs => cases hz; exact ⟨_, _, rfl, .inr ⟨ha.sq, F.tup R rs.reverse⟩⟩
    | lst ha hn rs => cases hz; exact ⟨_, _, rfl, .inl ⟨SqL.of ha, F.lst R rs.reverse⟩⟩
    | rol ha rs => cases hz; exact ⟨_, _, rfl, .inl ⟨ha.sq, F.lst R rs.reverse⟩⟩
    | ref hi =>
      simp only [revV, seqOf] at hz
      split at hz
      · rename_i xs ho
        cases hz
        cases R.obj hi ho with
        | lst hp rs => exact ⟨_, _, rfl, .inl ⟨SqL.of hp, F.lst R rs.reverse⟩⟩
      · cases hz
    | _ => cases hz
/-! ### fields, calls of what is built in -/
theorem fld_v {P : Prog} (C : ClsOk K T M.P) {f : Nat} : ∀ σ H Q, tE K T W (fun env h => ev M env (.fld a f) h) σ H Q → tFld K (tE K T W fun env h => ev M env a h) (T.nm f) σ H Q :=
  go1 fun σ ι G H h x v Q R rv F => fld_val C R rv F
theorem bi_v {o : Bi} : ∀ σ H Q, tE K T W (fun env h => ev M env (.bi o es) h) σ H Q → tCB (rBi K o) (tA K T W fun env h => evs M env es h) σ H Q := by
  rintro σ H Q ⟨ι, G, h, env, R, E, F⟩
  refine ⟨ι, G, h, env, R, E, (Fin.bind (R := RVs K) F).imp ?_⟩
  rintro vs H2 ⟨ι2, h2, xs, e2, R2, rs, F2⟩
  exact bi_val o R2 rs F2
theorem isi_v {y : Ty} : ∀ σ H Q, tE K T W (fun env h => ev M env (.isi a y) h) σ H Q → tCB (rIsi K) (tCons (tE K T W fun env h => ev M env a h) (tCons (tC (.ty (tyN y))) tNil)) σ H Q :=
  go1 (r := fun v H Q => rIsi K [v, .ty (tyN y)] H Q) fun σ ι G H h x v Q R rv F => isi_val R rv F
theorem list_v : ∀ σ H Q, tF K T W (fun env h => evF M env (.list a) h) σ H Q → tCB (fun xs H Q => ∃ p ys, xs = [V.ref p] ∧ (SqL K H p ys ∨ SqT K H p ys) ∧ ∀ l, H l = none → Q (.ref l) (upd H l (.lst ys))) (tCons (tE K T W fun env h => ev M env a h) tNil) σ H Q :=
  goL1 (r := fun v H Q => ∃ p ys, [v] = [V.ref p] ∧ (SqL K H p ys ∨ SqT K H p ys) ∧ ∀ l, H l = none → Q (.ref l) (upd H l (.lst ys))) fun σ ι G H h x v Q R rv F => listc_val (vs := []) R rv F
end
end G

set_option maxHeartbeats 4000000
/-! GSnd3: expressions: the compiled is what the model does. -/
namespace G
open PySem PySem.Spec PyProof.Rows L2
section
variable (T : Tie) (M : Pm) (k : Nat) (fa : Nat → Addr) (n : Nat)
def SndE : Prop := ∀ (X : Cx) (c : Ctx) (W : WX) (e : Expr) (m : E), At X c T M k fa → Takes X W → compE n c e = some m →
  PE X e (tE X.K T W fun env h => ev M env m h) ∧ (tstOk e = true → PT X e (tT X.K T W fun env h => evT M env m h))
def SndEs : Prop := ∀ (X : Cx) (c : Ctx) (W : WX) (es : List Expr) (ms : Es), At X c T M k fa → Takes X W → compEs n c es = some ms →
  PA X es (tA X.K T W fun env h => evs M env ms h) ∧ (es = [] → ms = .nil) ∧ ∀ env h xs h1, evs M env ms h = .ok xs h1 → xs.length = es.length
def SndKs : Prop := ∀ (X : Cx) (c : Ctx) (W : WX) (es : List Keyword) (ms : Es), At X c T M k fa → Takes X W → compKs n c es = some ms →
  PK X es (tA X.K T W fun env h => evs M env ms h) ∧ ∀ env h xs h1, evs M env ms h = .ok xs h1 → xs.length = es.length
def SndB : Prop := ∀ (X : Cx) (c : Ctx) (W : WX) (op : BoolOp) (es : List Expr) (p : Pos) (m : E), At X c T M k fa → Takes X W → compB n c op es = some m →
  PE X (.BoolOp op es p) (tE X.K T W fun env h => ev M env m h) ∧ PW X (.BoolOp op es p) (tT X.K T W fun env h => evT M env m h)
def SndO : Prop := ∀ (X : Cx) (c : Ctx) (W : WX) (o : Option Expr) (m : Oe), At X c T M k fa → Takes X W → compO n c o = some m → PO X o (tO X.K T W fun env h => evO M env m h)
def SndI : Prop := ∀ (X : Cx) (c : Ctx) (W : WX) (tg e : Expr) (w : Wk), At X c T M k fa → Takes X W → compI n c (isTupE tg) e = some w → PI X tg e (tI X.K T W fun env h => evI M env w h)
def SndL : Prop := ∀ (X : Cx) (c : Ctx) (W : WX) (elt tg it : Expr) (ifs : List Expr) (sc : Scope) (f : F), At X c T M k fa → Takes X W → compLc n c elt tg it ifs sc = some f → noSet it = true →
  (∀ pos, PE X (.ListComp elt [⟨tg, it, ifs, 0⟩] sc pos) (tF X.K T W fun env h => evF M env f h)) ∧
  ∀ i y py pos spos, X.N[i]? = some y → X.env.scope.names.lookup y = some .local → swapsWith (.ListComp elt [⟨tg, it, ifs, 0⟩] sc pos) (some (.Name y py)) spos.line X.env = pure true →
    PS X (.Assign [.Name y py] (.ListComp elt [⟨tg, it, ifs, 0⟩] sc pos) spos) (tAsg (tF X.K T W fun env h => evF M env f h) (gName i))
end
section
variable {X : Cx} {T : Tie} {M : Pm} {W : WX} {c : Ctx} {k n : Nat} {fa : Nat → Addr}
/-! ### lists of expressions -/
theorem sndEs (s : SndE T M k fa n) (r : SndEs T M k fa n) : SndEs T M k fa (n + 1) := by
  intro X c W es ms a tk h
  cases es with
  | nil =>
    have h : some Es.nil = some ms := h
    cases h
    exact ⟨PA.imp pa_nil nil_v, fun _ => rfl, fun env h xs h1 e => by cases e; rfl⟩
  | cons e es =>
    have h : gd (noStar e) (opt2 .cons (compE n c e) (compEs n c es)) = some ms := h
    obtain ⟨h1, h2⟩ := gd_some h
    obtain ⟨x, y, hx, hy, rfl⟩ := opt2_some h2
    obtain ⟨r1, _, r3⟩ := r X c W es y a tk hy
    refine ⟨PA.imp (pa_cons (s X c W e x a tk hx).1 r1 (star_ok h1)) cons_v, (fun z => by cases z), fun env h xs h1 e => ?_⟩
    have e : ((ev M env x h).bind fun x h1 => (evs M env y h1).bind fun xs h2 => .ok (x :: xs) h2) = .ok xs h1 := e
    revert e
    cases ev M env x h with
    | bad => intro e; cases e
    | ex => intro e; cases e
    | ok z h2 =>
      simp only [bind_ok]
      cases hz : evs M env y h2 with
      | bad => intro e; cases e
      | ex => intro e; cases e
      | ok zs h3 => intro e; cases e; simp [r3 _ _ _ _ hz]
theorem sndKs (s : SndE T M k fa n) (r : SndKs T M k fa n) : SndKs T M k fa (n + 1) := by
  intro X c W es ms a tk h
  cases es with
  | nil =>
    have h : some Es.nil = some ms := h
    cases h
    refine ⟨⟨fun pos pins s σ H Q I q => pk_nil.run pos pins s σ H Q I (nil_v _ _ _ q)⟩, fun env h xs h1 e => by cases e; rfl⟩
  | cons q es =>
    obtain ⟨nm, e, kp⟩ := q
    have h : opt2 .cons (compE n c e) (compKs n c es) = some ms := h
    obtain ⟨x, y, hx, hy, rfl⟩ := opt2_some h
    obtain ⟨r1, r3⟩ := r X c W _ y a tk hy
    refine ⟨⟨fun pos pins st σ H Q I q => (pk_cons (s X c W _ x a tk hx).1 r1).run pos pins st σ H Q I (cons_v _ _ _ q)⟩, fun env h xs h1 e => ?_⟩
    have e : ((ev M env x h).bind fun x h1 => (evs M env y h1).bind fun xs h2 => .ok (x :: xs) h2) = .ok xs h1 := e
    revert e
    cases ev M env x h with
    | bad => intro e; cases e
    | ex => intro e; cases e
    | ok z h2 =>
      simp only [bind_ok]
      cases hz : evs M env y h2 with
      | bad => intro e; cases e
      | ex => intro e; cases e
      | ok zs h3 => intro e; cases e; simp [r3 _ _ _ _ hz]
theorem sndO (s : SndE T M k fa n) : SndO T M k fa (n + 1) := by
  intro X c W o m a tk h
  cases o with
  | none =>
    have h : some Oe.none = some m := h
    cases h; exact PO.imp po_none part_none
  | some e =>
    have h : opt1 .some (compE n c e) = some m := h
    obtain ⟨x, hx, rfl⟩ := opt1_some h
    exact PO.imp (po_some (s X c W _ x a tk hx).1) part_some
theorem sndB (s : SndE T M k fa n) (r : SndB T M k fa n) : SndB T M k fa (n + 1) := by
  intro X c W op es p m a tk h
  match es, h with
  | [], h =>
    have h : (none : Option E) = some m := h
    cases h
  | [e], h =>
    have h : gd (tstOk e) (compE n c e) = some m := h
    obtain ⟨h1, h2⟩ := gd_some h
    obtain ⟨s1, s2⟩ := s X c W _ m a tk h2
    refine ⟨pe_one s1, ?_⟩
    cases op with
    | And => exact pw_and1 (s2 h1)
    | Or => exact pw_or1 (s2 h1)
  | e :: b :: es, h =>
    have h : gd (tstOk e) (opt2 (match op with | .And => .and | .Or => .or) (compE n c e) (compB n c op (b :: es))) = some m := by cases op <;> exact h
    obtain ⟨h1, h2⟩ := gd_some h
    obtain ⟨x, y, hx, hy, rfl⟩ := opt2_some h2
    obtain ⟨s1, s2⟩ := s X c W _ x a tk hx
    obtain ⟨r1, r2⟩ := r X c W op _ p y a tk hy
    cases op with
    | And => exact ⟨PE.imp (pe_and s1 r1) and_val, PW.imp (pw_and (s2 h1) r2) and_tst⟩
    | Or => exact ⟨PE.imp (pe_or s1 r1) or_val, PW.imp (pw_or (s2 h1) r2) or_tst⟩
/-! ### what is walked -/
theorem pi_val {tg e : Expr} {m : E} (he : PE X e (tE X.K T W fun env h => ev M env m h)) : PI X tg e (tI X.K T W fun env h => evI M env (.val m) h) := by
  refine ⟨fun pins s σ H R I h => ?_⟩
  obtain ⟨ι, G, h, env, Rp, E, F⟩ := h
  have F : PR ((ev M env m h).bind fun x h1 => (ofOpt (srcOf x h1) h1).bind fun s h2 => .ok (.one s) h2) (fun s h' => ∀ ι' H' J, Ext ι H ι' H' → Rep X.K T ι' G H' h' → SrcOk X.K T ι' G H' s J → R J H')
    (fun c fs h' => ∀ ι' H' cls d, Ext ι H ι' H' → Rep X.K T ι' G H' h' → RX X.K T ι' G H' cls d c fs → W cls d σ H') := F
  have key : ∀ r, ev M env m h = r → (∀ x h1, r = .ok x h1 → False) → iList X.K (tE X.K T W fun env h => ev M env m h) σ H R := by
    intro r hr hn
    refine ⟨ι, G, h, env, Rp, E, ?_⟩
    show Fin X.K T (RV X.K) W σ ι G H (ev M env m h) _
    rw [hr] at F ⊢
    cases r with
    | ok x h1 => exact (hn x h1 rfl).elim
    | ex => exact F
    | bad => exact F.elim
  cases hev : ev M env m h with
  | bad => exact (pi_list he).run pins s σ H R I (key _ hev (fun _ _ e => by cases e))
  | ex c fs h1 => exact (pi_list he).run pins s σ H R I (key _ hev (fun _ _ e => by cases e))
  | ok x h1 =>
    rw [hev] at F
    have st : ∀ {Q : VK}, (∀ ι' H' v, Ext ι H ι' H' → Rep X.K T ι' G H' h1 → RV X.K ι' G H' v x → Q v H') → tE X.K T W (fun env h => ev M env m h) σ H Q := fun hq => by
      refine ⟨ι, G, h, env, Rp, E, ?_⟩
      show Fin X.K T (RV X.K) W σ ι G H (ev M env m h) _
      rw [hev]
      exact hq
    cases x with
    | tup xs =>
      refine (pi_tup he).run pins s σ H R I (st fun ι' H' v e rp rv => ?_)
      cases rv with
      | tup ha rs => exact ⟨_, rfl, ⟨_, ha.sq⟩, F ι' H' _ e rp (src_tup ha rs)⟩
    | lst xs =>
      refine (pi_list he).run pins s σ H R I (st fun ι' H' v e rp rv => ?_)
      cases rv with
      | lst ha hn rs => exact ⟨_, rfl, ⟨_, SqL.of ha⟩, F ι' H' _ e rp (src_list (.inl ⟨.inl ha, hn⟩) rs)⟩
    | rol xs =>
      refine (pi_list he).run pins s σ H R I (st fun ι' H' v e rp rv => ?_)
      cases rv with
      | rol ha rs => exact ⟨_, rfl, ⟨_, ha.sq⟩, F ι' H' _ e rp (src_list ha rs)⟩
    | str z =>
      refine (pi_str he).run pins s σ H R I (st fun ι' H' v e rp rv => ?_)
      cases rv with
      | str => exact ⟨_, rfl, F ι' H' _ e rp src_str⟩
    | ref a =>
      simp only [srcOf, bind_ok] at F
      split at F
      · rename_i xs ho
        refine (pi_list he).run pins s σ H R I (st fun ι' H' v e rp rv => ?_)
        cases rv with
        | ref hi =>
          cases rp.obj hi ho with
          | lst hp rs => exact ⟨_, rfl, ⟨_, SqL.of hp⟩, F ι' H' _ e rp (src_box hi)⟩
      · exact F.elim
    | non => exact F.elim
    | bl _ => exact F.elim
    | int _ => exact F.elim
theorem rng1_v {m : E} : ∀ σ H R, tI X.K T W (fun env h => evI M env (.rng m) h) σ H R → iRng1 (tCons (tE X.K T W fun env h => ev M env m h) tNil) σ H R := by
  rintro σ H R ⟨ι, G, h, env, Rp, E, F⟩
  refine ⟨ι, G, h, env, Rp, E, ?_⟩
  have F : PR ((ev M env m h).bind fun x h1 => match x with
    | .int j => if rngOk j then .ok (.one (.fix (rngL 0 j.toNat))) h1 else .bad
    | _ => .bad) (fun s h' => ∀ ι' H' J, Ext ι H ι' H' → Rep X.K T ι' G H' h' → SrcOk X.K T ι' G H' s J → R J H')
    (fun c fs h' => ∀ ι' H' cls d, Ext ι H ι' H' → Rep X.K T ι' G H' h' → RX X.K T ι' G H' cls d c fs → W cls d σ H') := F
  show Fin X.K T (RV X.K) W σ ι G H (ev M env m h) _
  revert F
  cases ev M env m h with
  | bad => exact fun F => F
  | ex => exact fun F => F
  | ok x h1 =>
    cases x with
    | int j =>
      simp only [bind_ok]
      split
      · rename_i hj
        intro F ι' H' v e rp rv
        cases rv
        exact ⟨j, rfl, hj.1, hj.2, F ι' H' _ e rp src_rng⟩
      · exact fun F => F.elim
    | _ => exact fun F => F.elim
theorem rng2_v {m m2 : E} : ∀ σ H R, tI X.K T W (fun env h => evI M env (.rng2 m m2) h) σ H R → iRng2 (tCons (tE X.K T W fun env h => ev M env m h) (tCons (tE X.K T W fun env h => ev M env m2 h) tNil)) σ H R := by
  rintro σ H R ⟨ι, G, h, env, Rp, E, F⟩
  refine ⟨ι, G, h, env, Rp, E, ?_⟩
  have F : PR ((ev M env m h).bind fun x h1 => (ev M env m2 h1).bind fun y h2 => match x, y with
    | .int i, .int j => if rngOk i ∧ rngOk j then .ok (.one (.fix (rngL i (j - i).toNat))) h2 else .bad
    | _, _ => .bad) (fun s h' => ∀ ι' H' J, Ext ι H ι' H' → Rep X.K T ι' G H' h' → SrcOk X.K T ι' G H' s J → R J H')
    (fun c fs h' => ∀ ι' H' cls d, Ext ι H ι' H' → Rep X.K T ι' G H' h' → RX X.K T ι' G H' cls d c fs → W cls d σ H') := F
  show Fin X.K T (RV X.K) W σ ι G H (ev M env m h) _
  revert F
  cases ev M env m h with
  | bad => exact fun F => F
  | ex => exact fun F => F
  | ok x h1 =>
    intro F ι1 H1 v e1 R1 rv
    refine ⟨ι1, G, h1, env, R1, E.mono e1, ?_⟩
    show Fin X.K T (RV X.K) W σ ι1 G H1 (ev M env m2 h1) _
    simp only [bind_ok] at F
    revert F
    cases ev M env m2 h1 with
    | bad => exact fun F => F
    | ex => exact fun F ι' H' cls d e rp rx => F ι' H' cls d (e1.trans e) rp rx
    | ok y h2 =>
      intro F ι2 H2 w e2 R2 rw
      simp only [bind_ok] at F
      split at F
      · rename_i i j
        split at F
        · rename_i hj
          cases rv
          cases rw
          exact ⟨i, j, rfl, ⟨hj.1.1, hj.1.2, hj.2.1, hj.2.2⟩, F ι2 H2 _ (e1.trans e2) R2 src_rng⟩
        · exact F.elim
      · exact F.elim
theorem PI.imp {tg e : Expr} {t t' : TI} (p : PI X tg e t) (h : ∀ σ H R, t' σ H R → t σ H R) : PI X tg e t' := ⟨fun pins s σ H R I q => p.run pins s σ H R I (h σ H R q)⟩
theorem sndI (s : SndE T M k fa n) : SndI T M k fa (n + 1) := by
  intro X c W tg e w a tk h
  have hv : ∀ {e w}, opt1 Wk.val (compE n c e) = some w → PI X tg e (tI X.K T W fun env h => evI M env w h) := fun h => by
    obtain ⟨x, hx, rfl⟩ := opt1_some h
    exact pi_val (s X c W _ x a tk hx).1
  unfold compI at h
  simp only at h
  split at h
  · split at h
    · rename_i hg
      obtain ⟨g1, g2, g3, g4⟩ := gl_ok a hg
      split at h
      · rename_i hx
        obtain rfl := of_decide_eq_true hx
        obtain ⟨h1, h2⟩ := gd_some h
        obtain ⟨x, hx, rfl⟩ := opt1_some h2
        exact PI.imp (pi_range1 g1 g4 (pa_cons (s X c W _ x a tk hx).1 pa_nil (star_ok h1)) (star_ok h1)) rng1_v
      · cases h
      · exact hv h
    · exact hv h
  · split at h
    · rename_i hg
      obtain ⟨g1, g2, g3, g4⟩ := gl_ok a hg
      split at h
      · rename_i hx
        obtain rfl := of_decide_eq_true hx
        obtain ⟨h1, h2⟩ := gd_some h
        rw [Bool.and_eq_true] at h1
        obtain ⟨x, y, hx, hy, rfl⟩ := opt2_some h2
        exact PI.imp (pi_range2 g1 g4 (pa_cons (s X c W _ x a tk hx).1 (pa_cons (s X c W _ y a tk hy).1 pa_nil (star_ok h1.2)) (star_ok h1.1)) (by rw [star_ok h1.1, star_ok h1.2]; rfl) (star_ok h1.2)) rng2_v
      · cases h
      · exact hv h
    · exact hv h
  · exact hv h
end
end G

set_option maxHeartbeats 4000000
/-! GSnd4: comprehensions, calls. -/
namespace G
open PySem PySem.Spec PyProof.Rows L2
section
variable {X : Cx} {T : Tie} {M : Pm} {W : WX} {c : Ctx} {k n : Nat} {fa : Nat → Addr}
theorem At.blk (a : At X c T M k fa) {sc : Scope} (hu : ∀ y ∈ sc.names, sc.names.lookup y.1 = some y.2) (s : Shared) (H : Hp) (C : Addr) (cl : List (Str × Addr)) (fp : List Addr) : At (X.blk s H sc (compEnvC sc cl C X.env) fp) (c.blk sc) T M k fa where
  N := a.N
  nd := a.nd
  sc := by
    show relS sc X.env.scope = relS sc c.sc
    rw [a.sc]
  fn := fun x h => by
    show (sc.names.lookup x == some .cell) = true
    have h : (sc.names.filter fun y => match y.2 with | .cell => true | _ => false).map (·.1) |>.any (fun y => decide (y = x)) := by
      have h : (false || ((sc.names.filter fun y => match y.2 with | .cell => true | _ => false).map (·.1)).any (fun y => decide (y = x))) = true := h
      rw [Bool.false_or] at h
      exact h
    obtain ⟨y, hy, e⟩ := List.any_eq_true.mp h
    obtain rfl := of_decide_eq_true e
    obtain ⟨z, hz, rfl⟩ := List.mem_map.mp hy
    obtain ⟨z1, z2⟩ := List.mem_filter.mp hz
    rw [hu z z1]
    split at z2
    · rename_i e2; rw [e2]; rfl
    · cases z2
  calm := a.calm
  wd := ⟨⟨a.wd.mo.cls, a.wd.mo.inj, a.wd.mo.meth, a.wd.mo.fn, a.wd.mo.ar⟩, a.wd.co, a.wd.fld, fun q hq => by
    have h := a.wd.glo q hq
    obtain ⟨x, g⟩ := q
    cases g <;> exact h⟩
  rm := a.rm
theorem sndL (s : SndE T M k fa n) (si : SndI T M k fa n) : SndL T M k fa (n + 1) := by
  intro X c W elt tg it ifs sc f a tk h hs
  unfold compLc at h
  split at h
  · cases h
  · rename_i t ht
    obtain ⟨h1, h2⟩ := gd_some h
    rw [Bool.and_eq_true] at h1
    obtain ⟨b1, b2⟩ := h1
    have ok : BlkOk X.N X.env.scope sc ((tgNames tg).zip t.slots) := by
      rw [a.N, a.sc]; exact blkOk_by b1
    have ow : ((tgNames tg).zip t.slots).map (·.2) = t.slots := by
      have := of_decide_eq_true b2
      rw [show (fun x : Str × Nat => x.2) = Prod.snd from rfl, List.map_snd_zip (by omega)]
    have bl := fun s H C cl fp => a.blk ok.uniq s H C cl fp
    have pg : ∀ s H C cl fp, PG (X.blk s H sc (compEnvC sc cl C X.env) fp) tg (gTg X.K t) := fun s H C cl fp => tg_ok (bl s H C cl fp) ht
    split at h2
    · obtain ⟨w, m, hw, hm, rfl⟩ := opt2_some h2
      have iv := fun tg (z : isTupE tg = isTupE tg) => si X c W tg it w a tk
      have pi := si X c W tg it w a tk hw
      have pe : ∀ s' H C cl fp, PE (X.blk s' H sc (compEnvC sc cl C X.env) fp) elt (tE X.K T WF fun env h => ev M env m h) := fun s' H C cl fp => (s (X.blk s' H sc (compEnvC sc cl C X.env) fp) (c.blk sc) WF elt m (bl s' H C cl fp) takes0 hm).1
      refine ⟨fun pos => PE.imp (pe_lc a.calm a.nd pi ok pg (fun _ _ _ _ _ => pts_nil) pe (folded_ok hs)) ?_, fun i y py pos spos hy hyl hsw => PS.imp (ps_setLc a.calm a.nd hy hyl hsw pi ok pg (fun _ _ _ _ _ => pts_nil) pe (folded_ok hs)) ?_⟩
      · rw [ow]; exact lc0_val
      · rw [ow]; exact fun D σ H q => lc0_val σ H _ q
    · obtain ⟨hq, h3⟩ := gd_some h2
      obtain ⟨w, m2, m, hw, hm2, hm, rfl⟩ := opt3_some h3
      have pi := si X c W tg it w a tk hw
      have pe : ∀ s' H C cl fp, PE (X.blk s' H sc (compEnvC sc cl C X.env) fp) elt (tE X.K T WF fun env h => ev M env m h) := fun s' H C cl fp => (s (X.blk s' H sc (compEnvC sc cl C X.env) fp) (c.blk sc) WF elt m (bl s' H C cl fp) takes0 hm).1
      have pt : ∀ s' H C cl fp, PTs (X.blk s' H sc (compEnvC sc cl C X.env) fp) _ (tT X.K T WF fun env h => evT M env m2 h) := fun s' H C cl fp => pts_one ((s (X.blk s' H sc (compEnvC sc cl C X.env) fp) (c.blk sc) WF _ m2 (bl s' H C cl fp) takes0 hm2).2 hq)
      refine ⟨fun pos => PE.imp (pe_lc a.calm a.nd pi ok pg pt pe (folded_ok hs)) ?_, fun i y py pos spos hy hyl hsw => PS.imp (ps_setLc a.calm a.nd hy hyl hsw pi ok pg pt pe (folded_ok hs)) ?_⟩
      · rw [ow]; exact lc_val
      · rw [ow]; exact fun D σ H q => lc_val σ H _ q
    · cases h2
/-! ### calls -/
theorem call_v {f : Nat} {es : Es} {np : Nat} (ar : ∀ vs h, vs.length ≠ np → M.call f vs h = .bad) : (fun env h => ev M env (.call f es) h) = fun env h => (evs M env es h).bind fun vs h1 => if vs.length = np then M.call f vs h1 else .bad := by
  funext env h
  show (evs M env es h).bind _ = _
  congr 1
  funext vs h1
  split
  · rfl
  · rename_i hl; exact ar vs h1 hl
theorem callk_v {f : Nat} {es ks : Es} {np nk : Nat} (ar : ∀ vs h, vs.length ≠ np → M.call f vs h = .bad) (hk : ∀ env h xs h1, evs M env ks h = .ok xs h1 → xs.length = nk) : (fun env h => ev M env (.callk f es ks) h) = fun env h => (evs M env es h).bind fun vs h1 => (evs M env ks h1).bind fun ws h2 => if ws.length = nk then if (vs ++ ws).length = np then M.call f (vs ++ ws) h2 else .bad else .bad := by
  funext env h
  show (evs M env es h).bind _ = _
  congr 1
  funext vs h1
  cases e : evs M env ks h1 with
  | bad => rfl
  | ex => rfl
  | ok ws h2 =>
    simp only [bind_ok]
    rw [if_pos (hk _ _ _ _ e)]
    split
    · rfl
    · rename_i hl; exact ar _ h2 hl
theorem mk_v {d f : Nat} {es : Es} {np : Nat} (hi : M.P.init d = some f) (ar : ∀ vs h, vs.length ≠ np → M.call f vs h = .bad) : (fun env h => ev M env (.mk d es) h) = fun env h => (evs M env es h).bind fun vs h1 => if vs.length + 1 = np then (match M.call f (.ref h1.length :: vs) (h1 ++ [.ins d []]) with
      | .ok .non h' => .ok (.ref h1.length) h'
      | .ok _ _ => .bad
      | .ex c fs h' => .ex c fs h'
      | .bad => .bad) else .bad := by
  funext env h
  show (evs M env es h).bind _ = _
  congr 1
  funext vs h1
  show mkV M d vs h1 = _
  unfold mkV
  rw [hi]
  by_cases hl : vs.length + 1 = np
  · rw [if_pos hl]
    try rfl
  · rw [if_neg hl]
    show (match M.call f (.ref h1.length :: vs) (h1 ++ [.ins d []]) with
      | .ok .non h' => Res.ok (Val.ref h1.length) h'
      | .ok _ _ => .bad
      | .ex c fs h' => .ex c fs h'
      | .bad => .bad) = .bad
    rw [ar (.ref h1.length :: vs) _ (by simpa using hl)]
/-! ### methods of built-in types -/
theorem bm_v {o : E} {es : Es} {m : Bm} {ty : String} {r : V → List V → Hp → VK → Prop}
    (ht : ∀ (σ : L2.St) (ι : Io) (G : Gh) (H : Hp) (h : LH) (x : Val) (v : V), Rep X.K T ι G H h → RV X.K ι G H v x → bmTy h m x = true → tyV X.K ty v H)
    (hr : ∀ (σ : L2.St) (ι : Io) (G : Gh) (H : Hp) (h : LH) (x : Val) (v : V) (xs : List Val) (vs : List V) (Q : VK), Rep X.K T ι G H h → RV X.K ι G H v x → RVs X.K ι G H vs xs → Fin X.K T (RV X.K) W σ ι G H (bmV h m x xs) Q → r v vs H Q) :
    ∀ σ H Q, tE X.K T W (fun env h => ev M env (.bm o m es) h) σ H Q → tBM X.K ty r (tE X.K T W fun env h => ev M env o h) (tA X.K T W fun env h => evs M env es h) σ H Q := by
  rintro σ H Q ⟨ι, G, h, env, R, E, F⟩
  refine ⟨ι, G, h, env, R, E, (Fin.bind (R := RV X.K) F).imp ?_⟩
  rintro v H1 ⟨ι1, h1, x, e1, R1, rv, F1⟩
  split at F1
  · rename_i hb
    refine ⟨ht σ ι1 G H1 h1 x v R1 rv hb, ι1, G, h1, env, R1, E.mono e1, (Fin.bind (R := RVs X.K) F1).imp ?_⟩
    rintro vs H2 ⟨ι2, h2, xs, e2, R2, rs, F2⟩
    exact hr σ ι2 G H2 h2 x v xs vs Q R2 (rv.mono e2) rs F2
  · exact F1.elim
theorem bm_v0 {o : E} {m : Bm} {ty : String} {r : V → List V → Hp → VK → Prop}
    (ht : ∀ (σ : L2.St) (ι : Io) (G : Gh) (H : Hp) (h : LH) (x : Val) (v : V), Rep X.K T ι G H h → RV X.K ι G H v x → bmTy h m x = true → tyV X.K ty v H)
    (hr : ∀ (σ : L2.St) (ι : Io) (G : Gh) (H : Hp) (h : LH) (x : Val) (v : V) (Q : VK), Rep X.K T ι G H h → RV X.K ι G H v x → Fin X.K T (RV X.K) W σ ι G H (bmV h m x []) Q → r v [] H Q) :
    ∀ σ H Q, tE X.K T W (fun env h => ev M env (.bm o m .nil) h) σ H Q → tBM0 X.K ty r (tE X.K T W fun env h => ev M env o h) σ H Q := by
  rintro σ H Q ⟨ι, G, h, env, R, E, F⟩
  refine ⟨ι, G, h, env, R, E, (Fin.bind (R := RV X.K) F).imp ?_⟩
  rintro v H1 ⟨ι1, h1, x, e1, R1, rv, F1⟩
  split at F1
  · rename_i hb
    exact ⟨ht σ ι1 G H1 h1 x v R1 rv hb, hr σ ι1 G H1 h1 x v Q R1 rv F1⟩
  · exact F1.elim
theorem ty_lst {ι : Io} {G : Gh} {H : Hp} {h : LH} {x : Val} {v : V} {m : Bm} (hm : m ≠ .join ∧ m ≠ .split) (R : Rep X.K T ι G H h) (rv : RV X.K ι G H v x) (e : bmTy h m x = true) : tyV X.K "list" v H := by
  have key : ∀ a, RV X.K ι G H v (.ref a) → (match h[a]? with | some (.lst _) => true | _ => false) = true → tyV X.K "list" v H := by
    intro a rv e
    split at e
    · rename_i xs ho
      obtain ⟨p, vs, rfl, _, hp, _⟩ := lstb_ok R rv ho
      exact .inl ⟨rfl, _, SqL.of hp⟩
    · cases e
  cases m <;> cases x <;> first
    | (exact absurd rfl hm.1)
    | (exact absurd rfl hm.2)
    | (exact key _ rv e)
    | (cases e)
end
end G

set_option maxHeartbeats 4000000
/-! GSnd5: expressions, all. -/
namespace G
open PySem PySem.Spec PyProof.Rows L2
theorem boot_isi : bootBuiltins "isinstance" = some (.builtin "isinstance") := rfl
theorem boot_list : bootBuiltins "list" = some (.type "list") := rfl
theorem boot_ty {x : Str} {y : Ty} (h : tyOf x = some y) : bootBuiltins x = some (.type (tyN y)) := by
  unfold tyOf at h
  split at h
  · rename_i e; subst e; cases h; rfl
  split at h
  · rename_i e; subst e; cases h; rfl
  split at h
  · rename_i e; subst e; cases h; rfl
  split at h
  · rename_i e; subst e; cases h; rfl
  split at h
  · rename_i e; subst e; cases h; rfl
  cases h
theorem boot_bi {x : Str} {n : Nat} {b : Bi} (h : biOf x n = some b) : bootBuiltins x = some (biId b) := by
  unfold biOf at h
  split at h
  · rename_i e; subst e; cases h; rfl
  split at h
  · rename_i e; subst e; cases h; rfl
  split at h
  · rename_i e; subst e; cases h; rfl
  split at h
  · rename_i e; subst e; cases h; rfl
  split at h
  · rename_i e; subst e; cases h; rfl
  split at h
  · rename_i e; subst e; cases h; rfl
  split at h
  · rename_i e; subst e; cases h; rfl
  split at h
  · rename_i e; subst e; cases h; rfl
  split at h
  · rename_i e; subst e; cases h; rfl
  split at h
  · rename_i e; subst e
    split at h
    · cases h; rfl
    · cases h; rfl
  split at h
  · rename_i e; subst e
    split at h
    · cases h; rfl
    · cases h; rfl
  cases h
section
variable {X : Cx} {T : Tie} {M : Pm} {W : WX} {c : Ctx} {k n : Nat} {fa : Nat → Addr}
theorem lastM {o p : CmpOp} {b d : Expr} (h : noSet d = true) : lastMarks [o, p] [b, d] = false := by
  show behindInMarks p d = false
  exact marks_ok h
theorem pe_bi {x : Str} {px p : Pos} {args : List Expr} {b : Bi} {ms : Es} (a : At X c T M k fa) (hg : glName c x = some .blt) (hb : biOf x args.length = some b) (hs : args.all noStar = true) (hne : args ≠ []) (ha : PA X args (tA X.K T W fun env h => evs M env ms h)) :
    PE X (.Call (.Name x px) args [] p) (tE X.K T W fun env h => ev M env (.bi b ms) h) := by
  obtain ⟨g1, g2, g3, g4⟩ := gl_ok a hg
  have hv := boot_bi hb
  cases args with
  | nil => exact absurd rfl hne
  | cons e es =>
    rw [List.all_cons, Bool.and_eq_true] at hs
    have hr := bi_ok (X := X) a.calm b
    refine PE.imp ?_ bi_v
    have key : ∀ f, biId b = f → (∃ id, f = .builtin id) ∨ (∃ t, f = .type t) := by
      intro f e; subst e
      cases b <;> first | exact .inl ⟨_, rfl⟩ | exact .inr ⟨_, rfl⟩
    rcases key _ rfl with ⟨id, e⟩ | ⟨t, e⟩
    · rw [e] at hr hv
      exact pe_callB hr g1 g4 hv ha g3 g2 (star_ok hs.1) (stars_ok hs.2)
    · rw [e] at hr hv
      exact pe_callTy hr g1 g4 hv ha g3 g2 (star_ok hs.1) (stars_ok hs.2)
theorem fr_or_bx {e : Expr} {f : F} {b : Bool} (p : PE X e (tF X.K T W fun env h => evF M env f h)) : PE X e (tE X.K T W fun env h => ev M env (if b = true then .bx f else .fr f) h) := by
  cases b with
  | true => exact PE.imp p bx_val
  | false => exact PE.imp p fr_val
theorem ar_of (a : At X c T M k fa) {f : Nat} {d : Def} (h : M.P.fn f = some d) : ∀ vs h, vs.length ≠ d.np → M.call f vs h = .bad := fun vs hh hl => a.wd.mo.ar f vs hh fun d' hd => by
  rw [h] at hd; cases hd; exact hl
/-- a call by a name -/
theorem snd_call (s : SndE T M k fa n) (ss : SndEs T M k fa n) (ks : SndKs T M k fa n) {x : Str} {px p : Pos} {args : List Expr} {kws : List Keyword} {m : E} (a : At X c T M k fa) (tk : Takes X W)
    (h : compE (n + 1) c (.Call (.Name x px) args kws p) = some m) : PE X (.Call (.Name x px) args kws p) (tE X.K T W fun env h => ev M env m h) := by
  unfold compE at h
  simp only at h
  split at h
  · rename_i f ps hg
    obtain ⟨g1, g2, g3, d, fd, qs, g4, g5, g6, g7, g8, g9⟩ := gl_ok a hg
    have ar := ar_of a g4
    have rm : Room k X.A := a.rm.mono (Nat.le_succ k)
    split at h
    · obtain ⟨h1, h2⟩ := gd_some h
      obtain ⟨ms, hm, rfl⟩ := opt1_some h2
      obtain ⟨r1, r2, r3⟩ := ss X c W args ms a tk hm
      rw [call_v ar]
      cases args with
      | nil =>
        rw [r2 rfl]
        exact pe_callG0 g5 rm g1 g8 g7 g6 tk g2
      | cons e es =>
        rw [List.all_cons, Bool.and_eq_true] at h1
        exact pe_callG g5 rm g1 g8 g7 g6 tk r1 h1.1 h1.2 g2
    · rename_i hd tl
      obtain ⟨h1, h2⟩ := gd_some h
      simp only [Bool.and_eq_true] at h1
      obtain ⟨⟨h1, h3⟩, h4⟩ := h1
      obtain ⟨ms, mk, hm, hk, rfl⟩ := opt2_some h2
      obtain ⟨r1, r2, r3⟩ := ss X c W args ms a tk hm
      obtain ⟨q1, q2⟩ := ks X c W _ mk a tk hk
      have h4 := of_decide_eq_true h4
      have hl : (hd :: tl).length = (ps.drop args.length).length := by
        have := congrArg List.length h4
        simpa using this
      rw [callk_v (nk := (ps.drop args.length).length) ar fun env h xs h1 e => by rw [q2 _ _ _ _ e]; exact hl]
      cases args with
      | nil => cases h3
      | cons e es =>
        rw [List.all_cons, Bool.and_eq_true] at h1
        exact pe_callKG g5 rm g1 g8 g7 (g9 _) tk r1 q1 h1.1 h1.2 h4 g2
  · rename_i d hg
    obtain ⟨g1, g2, g3, f, dd, fd, qs, g0, g4, g5, g6, g7, g8, g9⟩ := gl_ok a hg
    have ar := ar_of a g4
    split at h
    · obtain ⟨h1, h2⟩ := gd_some h
      obtain ⟨ms, hm, rfl⟩ := opt1_some h2
      obtain ⟨r1, r2, r3⟩ := ss X c W args ms a tk hm
      rw [mk_v g0 ar]
      cases args with
      | nil =>
        rw [r2 rfl]
        exact pe_makeG0 g7 g8 g5 a.rm g1 g9 g6 tk g2
      | cons e es =>
        rw [List.all_cons, Bool.and_eq_true] at h1
        exact pe_makeG g7 g8 g5 a.rm g1 g9 g6 tk r1 h1.1 h1.2 g2
    · cases h
  · rename_i hg
    obtain ⟨g1, g2, g3, g4⟩ := gl_ok a hg
    split at h
    · cases h
    · split at h
      · rename_i ea t pt
        split at h
        · rename_i hx
          obtain rfl := of_decide_eq_true hx
          split at h
          · rename_i ht
            obtain ⟨t1, t2, t3, t4⟩ := gl_ok a ht
            obtain ⟨y, ty, hy, hty, rfl⟩ := opt2_some h
            have pa := (s X c W ea y a tk hy).1
            by_cases st : noStar ea = true
            · exact PE.imp (pe_callB call_isi g1 g4 boot_isi (pa_cons pa (pa_cons (pe_bltn t1 t4 (boot_ty hty) (show RelV (.ty _) _ from rfl) t3 t2) pa_nil (star_ok rfl)) (star_ok st)) g3 g2 (star_ok st) (by rw [star_ok (e := .Name t pt) (es := []) rfl]; rfl)) isi_v
            · cases ea with
              | Starred =>
                exfalso
                cases n with
                | zero => cases hy
                | succ n => cases hy
              | _ => exact absurd rfl st
          · cases h
        · obtain ⟨h1, h2⟩ := gd_some h
          obtain ⟨b, ms, hb, hm, rfl⟩ := opt2_some h2
          exact pe_bi a hg hb h1 (by simp) (ss X c W _ ms a tk hm).1
      · rename_i ea
        split at h
        · rename_i hx
          obtain rfl := of_decide_eq_true hx
          obtain ⟨h1, h2⟩ := gd_some h
          obtain ⟨y, hy, rfl⟩ := opt1_some h2
          exact fr_or_bx (PE.imp (pe_callTy call_list_of g1 g4 boot_list (pa_cons (s X c W ea y a tk hy).1 pa_nil (star_ok h1)) g3 g2 (star_ok h1) rfl) list_v)
        · obtain ⟨h1, h2⟩ := gd_some h
          obtain ⟨b, ms, hb, hm, rfl⟩ := opt2_some h2
          exact pe_bi a hg hb (by rw [List.all_cons, h1]; rfl) (by simp) (ss X c W _ ms a tk hm).1
      · cases h
      · rename_i z1 z2 z3
        obtain ⟨h1, h2⟩ := gd_some h
        obtain ⟨b, ms, hb, hm, rfl⟩ := opt2_some h2
        exact pe_bi a hg hb h1 z3 (ss X c W _ ms a tk hm).1
  · cases h
/-- a call of a method -/
theorem snd_mth (s : SndE T M k fa n) (ss : SndEs T M k fa n) {o : Expr} {mn : Str} {ap p : Pos} {args : List Expr} {m : E} (a : At X c T M k fa) (tk : Takes X W)
    (h : compE (n + 1) c (.Call (.Attribute o mn ap) args [] p) = some m) : PE X (.Call (.Attribute o mn ap) args [] p) (tE X.K T W fun env h => ev M env m h) := by
  unfold compE at h
  simp only at h
  obtain ⟨h1, h2⟩ := gd_some h
  simp only [Bool.and_eq_true] at h1
  obtain ⟨⟨⟨q1, q2⟩, q3⟩, q4⟩ := h1
  have q4 := of_decide_eq_true q4
  split at h2
  · obtain ⟨x, b, ms, hx, hb, hm, rfl⟩ := opt3_some h2
    obtain ⟨r1, r2, r3⟩ := ss X c W args ms a tk hm
    have po := (s X c W o x a tk hx).1
    unfold bmOf at hb
    split at hb
    · rename_i e; subst e; cases hb
      cases args with
      | nil =>
        rw [r2 rfl]
        refine PE.imp (pe_bm0 (r := fun _ _ _ _ => False) PySem.F.plainAttrs_list PySem.F.slot_list_append PySem.F.type_list_append (fun _ _ _ _ _ _ _ _ _ _ _ _ z => z.elim) po (base_ok q1) q2) (bm_v0 (fun _ _ _ _ _ _ _ R rv e => ty_lst ⟨by decide, by decide⟩ R rv e) fun σ ι G H h x v Q R rv F => ?_)
        cases x <;> exact F
      | cons e es =>
        rw [List.all_cons, Bool.and_eq_true] at q3
        refine PE.imp (pe_bm PySem.F.plainAttrs_list PySem.F.slot_list_append PySem.F.type_list_append mt_append po r1 (base_ok q1) ?_ q2 (star_ok q3.1) (stars_ok q3.2)) (bm_v (fun _ _ _ _ _ _ _ R rv e => ty_lst ⟨by decide, by decide⟩ R rv e) fun σ ι G H h x v xs vs Q R rv rs F => ?_)
        · rw [stars_len (by rw [List.all_cons, q3.1, q3.2]; rfl)]
          show (true && true && decide ((e :: es).length + 0 + 0 < 30)) = true
          simpa using q4
        · cases rs with
          | nil => cases x <;> exact F.elim
          | cons r1 rs =>
            cases rs with
            | nil => exact append_val R rv r1 F
            | cons _ _ => cases x <;> exact F.elim
    split at hb
    · rename_i e; subst e
      split at hb
      · rename_i hl
        cases hb
        have : args = [] := List.length_eq_zero_iff.mp hl
        subst this
        rw [r2 rfl]
        exact PE.imp (pe_bm0 PySem.F.plainAttrs_list PySem.F.slot_list_pop PySem.F.type_list_pop mt_pop po (base_ok q1) q2) (bm_v0 (fun _ _ _ _ _ _ _ R rv e => ty_lst ⟨by decide, by decide⟩ R rv e) fun σ ι G H h x v Q R rv F => pop_val R rv F)
      · rename_i hl
        cases hb
        cases args with
        | nil => exact absurd rfl hl
        | cons e es =>
          rw [List.all_cons, Bool.and_eq_true] at q3
          refine PE.imp (pe_bm PySem.F.plainAttrs_list PySem.F.slot_list_pop PySem.F.type_list_pop mt_popAt po r1 (base_ok q1) ?_ q2 (star_ok q3.1) (stars_ok q3.2)) (bm_v (fun _ _ _ _ _ _ _ R rv e => ty_lst ⟨by decide, by decide⟩ R rv e) fun σ ι G H h x v xs vs Q R rv rs F => ?_)
          · rw [stars_len (by rw [List.all_cons, q3.1, q3.2]; rfl)]
            show (true && true && decide ((e :: es).length + 0 + 0 < 30)) = true
            simpa using q4
          · cases rs with
            | nil => cases x <;> exact F.elim
            | cons r1 rs =>
              cases rs with
              | nil => exact popAt_val R rv r1 F
              | cons _ _ => cases x <;> cases r1 <;> exact F.elim
    · cases hb
  · obtain ⟨x, f, ms, hx, hf, hm, rfl⟩ := opt3_some h2
    obtain ⟨r1, r2, r3⟩ := ss X c W args ms a tk hm
    have e := a.wd.fld _ (lk_mem hf)
    have e : T.nm f = mn := e
    subst e
    exact pe_mthG a.wd.mo (a.rm.mono (Nat.le_succ k)) tk (s X c W o x a tk hx).1 r1 (fun z => by rw [r2 z]; rfl) q1 q2 q3 q4
end
end G

set_option maxHeartbeats 4000000
/-! GSnd6: expressions closed; statements. -/
namespace G
open PySem PySem.Spec PyProof.Rows L2
section
variable {X : Cx} {T : Tie} {M : Pm} {W : WX} {c : Ctx} {k n : Nat} {fa : Nat → Addr}
theorem sndE (s : SndE T M k fa n) (ss : SndEs T M k fa n) (ks : SndKs T M k fa n) (sb : SndB T M k fa n) (so : SndO T M k fa n) (sl : SndL T M k fa n) : SndE T M k fa (n + 1) := by
  intro X c W e m a tk h
  have pt : PE X e (tE X.K T W fun env h => ev M env m h) → plainTest e = true → PE X e (tE X.K T W fun env h => ev M env m h) ∧ (tstOk e = true → PT X e (tT X.K T W fun env h => evT M env m h)) := fun p q => ⟨p, fun _ => pt_of p q⟩
  have h0 := h
  unfold compE at h
  split at h
  · -- Name
    refine pt ?_ rfl
    split at h
    · rename_i hx
      cases h
      obtain ⟨r1, r2, r3, r4⟩ := rd_ok a hx
      exact PE.imp (pe_var r1 r2 r3 r4) v_val
    · split at h
      · rename_i hg
        cases h
        obtain ⟨g1, g2, g3, v, u, z, g4, g5, g6, g7⟩ := gl_ok a hg
        exact PE.imp (pe_glob g1 g5 g6 g2) (g_val g4 g7)
      · cases h
  · -- Constant
    refine pt ?_ rfl
    obtain ⟨z, hz, rfl⟩ := opt1_some h
    rename_i q _ _
    cases q <;> first | (cases hz; done) | skip
    · cases hz; exact PE.imp pe_non (c_val fun _ _ _ => .non)
    · cases hz; exact PE.imp pe_bl (c_val fun _ _ _ => .bl _)
    · cases hz; exact PE.imp pe_int (c_val fun _ _ _ => .int _)
    · cases hz; exact PE.imp pe_str (c_val fun _ _ _ => .str _)
  · -- BinOp
    refine pt ?_ rfl
    split at h
    · obtain ⟨x, y, hx, hy, rfl⟩ := opt2_some h
      exact PE.imp (PE.imp (pe_op op_cat (s X c W _ x a tk hx).1 (s X c W _ y a tk hy).1) cat_v) bx_val
    · obtain ⟨x, y, hx, hy, rfl⟩ := opt2_some h
      exact PE.imp (PE.imp (pe_op op_rep (s X c W _ x a tk hx).1 (s X c W _ y a tk hy).1) rep_v) bx_val
    · obtain ⟨o, x, y, ho, hx, hy, rfl⟩ := opt3_some h
      rw [op2Of_ok ho]
      exact PE.imp (pe_op (op2_ok o) (s X c W _ x a tk hx).1 (s X c W _ y a tk hy).1) bin_v
  · -- USub
    obtain ⟨x, hx, rfl⟩ := opt1_some h
    exact pt (PE.imp (pe_un un_neg (s X c W _ x a tk hx).1) neg_val) rfl
  · -- Not
    obtain ⟨h1, h2⟩ := gd_some h
    obtain ⟨x, hx, rfl⟩ := opt1_some h2
    obtain ⟨s1, s2⟩ := s X c W _ x a tk hx
    exact ⟨PE.imp (pe_not s1) not_val, fun _ => PT.imp (pt_not (s2 h1)) not_tst⟩
  · -- BoolOp
    obtain ⟨s1, s2⟩ := sb X c W _ _ _ m a tk h
    exact ⟨s1, fun _ => s2.pt⟩
  · -- Compare
    obtain ⟨h1, h2⟩ := gd_some h
    obtain ⟨x, y, hx, hy, rfl⟩ := opt2_some h2
    have p1 := (s X c W _ x a tk hx).1
    have p2 := (s X c W _ y a tk hy).1
    rename_i o _ _
    rw [← cmToM_ok o]
    refine ⟨PE.imp (pe_cmpR (cm_ok a.hu (cmToM o)) p1 p2 (marks_ok h1)) ?_, fun _ => PT.imp (pt_cmpR (cm_ok a.hu (cmToM o)) p1 p2 (marks_ok h1)) fun σ H Q q => ?_⟩
    · rw [cmToM_ok o]; exact cmp_v
    · rw [cmToM_ok o] at q; exact cmp_v _ _ _ (tst_val cmp_bl _ _ _ q)
  · -- Compare of three
    obtain ⟨h1, h2⟩ := gd_some h
    obtain ⟨x, y, z, hx, hy, hz, rfl⟩ := opt3_some h2
    have p1 := (s X c W _ x a tk hx).1
    have p2 := (s X c W _ y a tk hy).1
    have p3 := (s X c W _ z a tk hz).1
    rename_i o p _ d _
    rw [← cmToM_ok o, ← cmToM_ok p]
    refine ⟨PE.imp (pe_chain (cm_ok a.hu (cmToM o)) (cm_ok a.hu (cmToM p)) p1 p2 p3 (lastM h1)) ?_, fun _ => PT.imp (pt_chain (cm_ok a.hu (cmToM o)) (cm_ok a.hu (cmToM p)) p1 p2 p3 (lastM h1)) fun σ H Q q => ?_⟩
    · rw [cmToM_ok o, cmToM_ok p]; exact cmp2_v
    · rw [cmToM_ok o, cmToM_ok p] at q; exact cmp2_v _ _ _ (tst_val cmp2_bl _ _ _ q)
  · -- IfExp
    obtain ⟨h1, h2⟩ := gd_some h
    obtain ⟨x, y, z, hx, hy, hz, rfl⟩ := opt3_some h2
    exact ⟨PE.imp (pe_ifExp ((s X c W _ x a tk hx).2 h1) (s X c W _ y a tk hy).1 (s X c W _ z a tk hz).1) ite_val, fun z => by cases z⟩
  · -- Tuple
    obtain ⟨x, hx, rfl⟩ := opt1_some h
    exact pt (PE.imp (pe_tup (ss X c W _ x a tk hx).1) tup_v) rfl
  · -- List
    obtain ⟨x, hx, rfl⟩ := opt1_some h
    exact pt (fr_or_bx (PE.imp (pe_lst (ss X c W _ x a tk hx).1) disp_v)) rfl
  · -- ListComp
    obtain ⟨h1, h2⟩ := gd_some h
    rw [Bool.and_eq_true] at h1
    have h3 := of_decide_eq_true h1.1
    subst h3
    obtain ⟨x, hx, rfl⟩ := opt1_some h2
    exact pt (fr_or_bx ((sl X c W _ _ _ _ _ x a tk hx h1.2).1 _)) rfl
  · -- a[::-1]
    refine pt ?_ rfl
    split at h
    · cases h
    · obtain ⟨x, hx, rfl⟩ := opt1_some h
      exact PE.imp (pe_revA (s X c W _ x a tk hx).1) rev_v
  · -- slices
    refine pt ?_ rfl
    split at h
    · obtain ⟨x, y, z, hx, hy, hz, rfl⟩ := opt3_some h
      exact PE.imp (PE.imp (pe_slice sl_list (s X c W _ x a tk hx).1 (so X c W _ y a tk hy) (so X c W _ z a tk hz)) lsl_v) bx_val
    · obtain ⟨x, y, z, hx, hy, hz, rfl⟩ := opt3_some h
      exact PE.imp (pe_slice slV_ok (s X c W _ x a tk hx).1 (so X c W _ y a tk hy) (so X c W _ z a tk hz)) sl_v
  · -- Subscript
    obtain ⟨h1, h2⟩ := gd_some h
    obtain ⟨x, y, hx, hy, rfl⟩ := opt2_some h2
    exact pt (PE.imp (pe_ix (ixA_ok (by have := a.hu; omega)) (s X c W _ x a tk hx).1 (s X c W _ y a tk hy).1 (plainIx_ok h1)) ix_v) rfl
  · -- Attribute
    obtain ⟨h1, h2⟩ := gd_some h
    obtain ⟨x, y, hx, hy, rfl⟩ := opt2_some h2
    rename_i aa ff pp
    have e : T.nm y = ff := a.wd.fld _ (lk_mem hy)
    refine pt (PE.imp (pe_fld (s X c W _ x a tk hx).1 (base_ok h1)) ?_) rfl
    rw [← e]
    exact fld_v (P := M.P) a.wd.co
  · exact pt (snd_call s ss ks a tk h0) rfl
  · exact pt (snd_mth s ss a tk h0) rfl
  · cases h
structure SndA (T : Tie) (M : Pm) (k : Nat) (fa : Nat → Addr) (n : Nat) : Prop where
  e : SndE T M k fa n
  es : SndEs T M k fa n
  ks : SndKs T M k fa n
  b : SndB T M k fa n
  o : SndO T M k fa n
  i : SndI T M k fa n
  l : SndL T M k fa n
theorem sndA (T : Tie) (M : Pm) (k : Nat) (fa : Nat → Addr) : ∀ n, SndA T M k fa n
  | 0 => ⟨(fun _ _ _ _ _ _ _ h => by cases h), (fun _ _ _ _ _ _ _ h => by cases h), (fun _ _ _ _ _ _ _ h => by cases h), (fun _ _ _ _ _ _ _ _ _ h => by cases h), (fun _ _ _ _ _ _ _ h => by cases h), (fun _ _ _ _ _ _ _ _ h => by cases h), (fun _ _ _ _ _ _ _ _ _ _ _ h => by cases h)⟩
  | n + 1 =>
    let i := sndA T M k fa n
    ⟨sndE i.e i.es i.ks i.b i.o i.l, sndEs i.e i.es, sndKs i.e i.ks, sndB i.e i.b, sndO i.e, sndI i.e, sndL i.e i.i⟩
/-! ### statements -/
def SndS (T : Tie) (M : Pm) (k : Nat) (fa : Nat → Addr) (n : Nat) : Prop := ∀ (X : Cx) (c : Ctx) (W : WX) (s : Stmt) (m : S), At X c T M k fa → Takes X W → PassesOwn (model X.prog X.w) X.A X.env X.xe → X.env.scope.kind = .function → compS n c s = some m → PS X s (tS X.K T W (exS M m))
def SndSs (T : Tie) (M : Pm) (k : Nat) (fa : Nat → Addr) (n : Nat) : Prop := ∀ (X : Cx) (c : Ctx) (W : WX) (s : List Stmt) (m : Ss), At X c T M k fa → Takes X W → PassesOwn (model X.prog X.w) X.A X.env X.xe → X.env.scope.kind = .function → compSs n c s = some m → PSs X s (tS X.K T W (exSs M m))
theorem sndSs (s : SndS T M k fa n) (r : SndSs T M k fa n) : SndSs T M k fa (n + 1) := by
  intro X c W st m a tk hp hk h
  cases st with
  | nil =>
    have h : some Ss.nil = some m := h
    cases h
    exact PSs.imp pss_nil ss_nil
  | cons x st =>
    have h : opt2 .cons (compS n c x) (compSs n c st) = some m := h
    obtain ⟨y, z, hy, hz, rfl⟩ := opt2_some h
    exact PSs.imp (pss_cons (s X c W x y a tk hp hk hy) (r X c W st z a tk hp hk hz)) ss_cons
theorem swS_ok {tg e : Expr} {l : Nat} {env : PySem.Env} (h : noComp e = true) : swapsWithSole [tg] e l env = pure false := by
  show swapsWith e (some tg) l env = pure false
  exact swaps_ok h
theorem augF_ok {o : Op2} {op : Operator} (h : op2Of op = some o) : InOp X op (rAugF o) := by
  rw [op2Of_ok h]
  cases o with
  | add => exact in_add
  | sub => exact in_sub
  | _ => exact fun _ _ _ _ _ _ _ _ _ _ _ _ z => z.elim
theorem swpS_ok {tg e : Expr} {env : PySem.Env} (h : isTupE e = false) : swappedStores [tg] e env = pure none := by
  unfold swappedStores
  cases e with
  | Tuple => cases h
  | _ => cases tg <;> rfl
theorem swpT_ok {tg e : Expr} {env : PySem.Env} (h : isTupE tg = false) (h2 : ∀ es p, tg ≠ .List es p) : swappedStores [tg] e env = pure none := by
  unfold swappedStores
  cases tg with
  | Tuple => cases h
  | List => exact absurd rfl (h2 _ _)
  | _ => cases e <;> rfl
theorem lc_inv {elt : Expr} {gs : List Comprehension} {sc : Scope} {pp : Pos} {m : E} (h : compE (n + 1) c (.ListComp elt gs sc pp) = some m) : ∃ tg it ifs f, gs = [⟨tg, it, ifs, 0⟩] ∧ noSet it = true ∧ compLc n c elt tg it ifs sc = some f ∧ m = if bxAt c pp = true then .bx f else .fr f := by
  match gs, h with
  | [], h =>
    have h : (none : Option E) = some m := h
    cases h
  | [⟨tg, it, ifs, q⟩], h =>
    have h : gd (decide (q = 0) && noSet it) (opt1 (fun f => if bxAt c pp = true then E.bx f else E.fr f) (compLc n c elt tg it ifs sc)) = some m := h
    obtain ⟨h1, h2⟩ := gd_some h
    rw [Bool.and_eq_true] at h1
    obtain rfl := of_decide_eq_true h1.1
    obtain ⟨f, hf, rfl⟩ := opt1_some h2
    exact ⟨tg, it, ifs, f, rfl, h1.2, hf, rfl⟩
  | ⟨_, _, _, _⟩ :: _ :: _, h =>
    have h : (none : Option E) = some m := h
    cases h
theorem swapsA_ok {env : PySem.Env} {e t : Expr} {l : Nat} (h : ∀ x p, t ≠ .Name x p) : swapsWith e (some t) l env = pure false := by
  unfold swapsWith
  cases e <;> first | rfl | (cases t <;> first | rfl | exact absurd rfl (h _ _))
theorem swSub_ok {env : PySem.Env} {o i e : Expr} {p : Pos} {l : Nat} : swapsWithSole [.Subscript o i p] e l env = pure false := by
  show swapsWith e (some (.Subscript o i p)) l env = pure false
  exact swapsA_ok fun _ _ z => by cases z
theorem asgSub_ok {env : PySem.Env} {o i : Expr} {pos : Pos} (h : noSl i = true) : ∀ v, assign (.Subscript o i pos) env v = (do
      let ov ← holding [v] (eval o env)
      let iv ← holding [v, ov] (eval i env)
      standAt pos
      holding [v, ov, iv] (setItem ov iv v)
      release [v, ov, iv] []) := fun v => by
  cases i <;> first | rfl | cases h
theorem sndS (A : SndA T M k fa n) (AL : SndA T M k fa (n - 1)) (r : SndSs T M k fa n) : SndS T M k fa (n + 1) := by
  intro X c W st m a tk hp hk h
  have s := A.e
  have rm : Room k X.A := a.rm.mono (Nat.le_succ k)
  unfold compS at h
  split at h
  · -- x = e
    rename_i x px e p
    split at h
    · rename_i hl
      obtain ⟨h1, h2⟩ := gd_some h
      obtain ⟨i, y, hi, hy, rfl⟩ := opt2_some h2
      cases e with
      | ListComp elt gs sc pp =>
        simp only [lcName, Bool.and_eq_true] at h1
        obtain ⟨⟨q1, q2⟩, q3⟩ := h1
        have q1 := isKind_ok q1
        have q3 : (sc.names.any fun (n, k) => n == x && (k == .local || k == .cell)) = false := by
          simpa using q3
        obtain ⟨w1, w2, w3⟩ := wr_ok a hi
        have hyl : X.env.scope.names.lookup x = some .local := by rw [a.sc]; exact q1
        have hsw : swapsWith (.ListComp elt gs sc pp) (some (.Name x px)) p.line X.env = pure true := sw_true hk hyl q2 q3
        cases n with
        | zero => cases hy
        | succ n =>
          obtain ⟨tg, it, ifs, f, rfl, z1, z2, rfl⟩ := lc_inv hy
          have q := (AL.l X c W elt tg it ifs sc f a tk z2 z1).2 i x px pp p w1 hyl hsw
          cases bxAt c pp with
          | true => exact PS.imp q fun D σ H z => bx_val _ _ _ (s_set _ _ _ z)
          | false => exact PS.imp q fun D σ H z => fr_val _ _ _ (s_set _ _ _ z)
      | _ => cases hl
    · obtain ⟨h1, h2⟩ := gd_some h
      obtain ⟨i, y, hi, hy, rfl⟩ := opt2_some h2
      obtain ⟨w1, w2, w3⟩ := wr_ok a hi
      exact PS.imp (ps_set a.nd w1 w2 (s X c W _ y a tk hy).1 (swaps_ok h1) w3) s_set
  · -- a, b = e
    obtain ⟨h1, h2⟩ := gd_some h
    rw [Bool.and_eq_true, Bool.not_eq_true'] at h1
    obtain ⟨t, y, ht, hy, rfl⟩ := opt2_some h2
    exact PS.imp (ps_asg (s X c W _ y a tk hy).1 (tg_ok a ht) (swS_ok h1.1) (swpS_ok h1.2)) s_set
  · -- o.f = e
    obtain ⟨x, y, z, hx, hy, hz, rfl⟩ := opt3_some h
    rename_i oo ff pp ee _
    have e : T.nm y = ff := a.wd.fld _ (lk_mem hy)
    subst e
    exact PS.imp (ps_fld (s X c W _ x a tk hx).1 (s X c W _ z a tk hz).1 (swapsA_ok fun _ _ z => by cases z)) (s_fld a.wd.co)
  · -- o[i] = e
    obtain ⟨h1, h2⟩ := gd_some h
    obtain ⟨x, y, z, hx, hy, hz, rfl⟩ := opt3_some h2
    exact PS.imp (ps_asg (s X c W _ z a tk hz).1 (pg_sub (s X c W _ x a tk hx).1 (s X c W _ y a tk hy).1 set_list (asgSub_ok h1)) swSub_ok (swpT_ok rfl fun _ _ z => by cases z)) s_sub
  · -- x op= e
    obtain ⟨x, o, y, hx, ho, hy, rfl⟩ := opt3_some h
    obtain ⟨w1, w2, w3⟩ := wr_ok a hx
    exact PS.imp (ps_aug a.nd w1 w2 (s X c W _ y a tk hy).1 (augF_ok ho) w3) s_aug
  · -- o.f op= e
    obtain ⟨g, z, hg, hz, rfl⟩ := opt2_some h
    obtain ⟨x, y, o, hx, hy, ho, rfl⟩ := opt3_some hg
    rename_i oo ff pp op ee _
    have e : T.nm y = ff := a.wd.fld _ (lk_mem hy)
    subst e
    exact PS.imp (ps_fldaug (s X c W _ x a tk hx).1 (s X c W _ z a tk hz).1 (augF_ok ho)) (s_fldA a.wd.co)
  · -- e
    obtain ⟨h1, h2⟩ := gd_some h
    obtain ⟨x, hx, rfl⟩ := opt1_some h2
    exact PS.imp (ps_expr (s X c W _ x a tk hx).1 (swaps_ok h1)) s_ex
  · obtain ⟨x, hx, rfl⟩ := opt1_some h
    exact PS.imp (ps_ret (s X c W _ x a tk hx).1) s_ret
  · cases h
    exact PS.imp ps_retN s_retN
  · obtain ⟨h1, h2⟩ := gd_some h
    obtain ⟨x, y, z, hx, hy, hz, rfl⟩ := opt3_some h2
    exact PS.imp (ps_if ((s X c W _ x a tk hx).2 h1) (r X c W _ y a tk hp hk hy) (r X c W _ z a tk hp hk hz)) s_if
  · obtain ⟨h1, h2⟩ := gd_some h
    obtain ⟨t, w, b, ht, hw, hb, rfl⟩ := opt3_some h2
    exact PS.imp (ps_for hp a.calm (A.i X c W _ _ w a tk hw) (tg_ok a ht) (r X c W _ b a tk hp hk hb) (folded_ok h1)) s_for
  · obtain ⟨h1, h2⟩ := gd_some h
    obtain ⟨x, b, hx, hb, rfl⟩ := opt2_some h2
    exact PS.imp (ps_while hp ((s X c W _ x a tk hx).2 h1) (r X c W _ b a tk hp hk hb)) s_while
  · cases h; exact PS.imp ps_break s_brk
  · cases h; exact PS.imp ps_continue s_cont
  · cases h; exact PS.imp ps_pass s_pass
  · cases h
theorem sndT (T : Tie) (M : Pm) (k : Nat) (fa : Nat → Addr) : ∀ n, SndS T M k fa n ∧ SndSs T M k fa n
  | 0 => ⟨(fun _ _ _ _ _ _ _ _ _ h => by cases h), (fun _ _ _ _ _ _ _ _ _ h => by cases h)⟩
  | n + 1 =>
    let i := sndT T M k fa n
    ⟨sndS (sndA T M k fa n) (sndA T M k fa (n - 1)) i.2, sndSs i.1 i.2⟩
end
end G

set_option maxHeartbeats 4000000
/-! GFun: defs bound and called: every def keeps the evaluator's promise. -/
namespace G
open PySem PySem.Spec PyProof.Rows L2
theorem kw_loop {ps : List Str} {f : Str × Value → List (Str × Value) × List (Str × Value) → Sem (ForInStep (List (Str × Value) × List (Str × Value)))} (hf : ∀ x s, ps.contains x.1 = true → (s.1.lookup x.1).isSome = false → f x s = pure (.yield (s.1 ++ [(x.1, x.2)], s.2))) :
    ∀ (qs : List Str) (ws : List Value) (pre : List (Str × Value)), ws.length = qs.length → (∀ q ∈ qs, q ∈ ps) → (∀ q ∈ qs, pre.lookup q = none) → qs.Nodup → forIn (qs.zip ws) (pre, []) f = pure (pre ++ qs.zip ws, [])
  | [], ws, pre, _, _, _, _ => by simp
  | q :: qs, [], pre, h, _, _, _ => by simp at h
  | q :: qs, w :: ws, pre, h, h1, h2, nd => by
    rw [List.zip_cons_cons, List.forIn_cons, hf _ _ (by simpa using h1 q List.mem_cons_self) (by rw [h2 q List.mem_cons_self]; rfl)]
    rw [LawfulMonad.pure_bind]
    simp only
    rw [kw_loop hf qs ws _ (by simpa using h) (fun x hx => h1 x (List.mem_cons_of_mem _ hx)) (fun x hx => ?_) (List.nodup_cons.mp nd).2]
    · simp
    · have hne : x ≠ q := by rintro rfl; exact (List.nodup_cons.mp nd).1 hx
      have e0 : pre.lookup x = none := h2 x (List.mem_cons_of_mem _ hx)
      rw [List.lookup_append, e0, List.lookup_cons, beq_eq_false_iff_ne.mpr hne]
      rfl
theorem zip_lookup : ∀ {ps : List Str} {us : List Value} {i : Nat} {q : Str} {u : Value}, ps.Nodup → ps[i]? = some q → us[i]? = some u → (ps.zip us).lookup q = some u
  | [], _, _, _, _, _, h, _ => by simp at h
  | _ :: _, [], _, _, _, _, _, h => by simp at h
  | p :: ps, v :: us, 0, q, u, nd, h, e => by
    simp at h e; subst h; subst e
    simp [List.lookup_cons]
  | p :: ps, v :: us, i + 1, q, u, nd, h, e => by
    have hm : q ∈ ps := List.mem_of_getElem? (by simpa using h)
    have hne : q ≠ p := by rintro rfl; exact (List.nodup_cons.mp nd).1 hm
    rw [List.zip_cons_cons, List.lookup_cons]
    simp only [beq_eq_false_iff_ne.mpr hne]
    exact zip_lookup (i := i) (List.nodup_cons.mp nd).2 (by simpa using h) (by simpa using e)
theorem zip_some {ps : List Str} {us : List Value} (nd : ps.Nodup) (hl : us.length = ps.length) {q : Str} (hq : q ∈ ps) : ∃ u, (ps.zip us).lookup q = some u := by
  obtain ⟨i, hi, e⟩ := List.mem_iff_getElem.mp hq
  exact ⟨us[i]'(by omega), zip_lookup (i := i) nd (by rw [List.getElem?_eq_getElem hi, e]) (by rw [List.getElem?_eq_getElem (by omega)])⟩
theorem zip_map {ps : List Str} {us : List Value} (nd : ps.Nodup) (hl : us.length = ps.length) : (ps.filterMap fun n => ((ps.zip us).lookup n).map (n, ·)) = ps.zip us := by
  have key : ∀ (qs : List Str) (vs : List Value) (m : Str → Option Value), vs.length = qs.length → (∀ (i : Nat) q v, qs[i]? = some q → vs[i]? = some v → m q = some v) → (qs.filterMap fun n => (m n).map (n, ·)) = qs.zip vs := by
    intro qs
    induction qs with
    | nil => intro vs m _ _; simp
    | cons q qs ih =>
      intro vs m hl h
      cases vs with
      | nil => simp at hl
      | cons v vs =>
        rw [List.filterMap_cons, h 0 q v rfl rfl]
        simp only [Option.map_some, List.zip_cons_cons]
        rw [ih vs m (by simpa using hl) fun i q v h1 h2 => h (i + 1) q v (by simpa using h1) (by simpa using h2)]
  exact key ps us (fun n => (ps.zip us).lookup n) hl fun i q v h1 h2 => zip_lookup nd h1 h2
theorem zip_app {α β : Type} : ∀ (ps : List α) (us ws : List β), us.length ≤ ps.length → ps.zip us ++ (ps.drop us.length).zip ws = ps.zip (us ++ ws)
  | _, [], ws, _ => by simp
  | [], _ :: _, _, h => by simp at h
  | p :: ps, u :: us, ws, h => by
    simp only [List.length_cons, List.drop_succ_cons, List.zip_cons_cons, List.cons_append]
    rw [zip_app ps us ws (by simpa using h)]
theorem bind_gen {fd : FuncData} {ps : List Str} {us ws : List Value} (h1 : fd.params.posonlyargs = []) (h2 : fd.params.kwonlyargs = []) (h3 : fd.params.vararg = none) (h4 : fd.params.kwarg = none) (h5 : fd.params.args.map (·.arg) = ps) (h6 : fd.defaults = .none) (nd : ps.Nodup) (hl : (us ++ ws).length = ps.length) :
    bindArgs fd ⟨us, (ps.drop us.length).zip ws⟩ = pure (ps.zip (us ++ ws)) := by
  have hl' : us.length + ws.length = ps.length := by simpa using hl
  have loop := fun f hf => kw_loop (ps := ps) (f := f) hf (ps.drop us.length) ws (ps.zip us) (by simp; omega) (fun q hq => List.mem_of_mem_drop hq) (fun q hq => by
    have : ∀ {ps : List Str} {us : List Value} {q : Str}, ps.Nodup → q ∈ ps.drop us.length → (ps.zip us).lookup q = none := by
      intro ps
      induction ps with
      | nil => intro us q _ h; simp at h
      | cons p ps ih =>
        intro us q nd h
        cases us with
        | nil => simp
        | cons u us =>
          simp only [List.length_cons, List.drop_succ_cons] at h
          have hne : q ≠ p := by rintro rfl; exact (List.nodup_cons.mp nd).1 (List.mem_of_mem_drop h)
          rw [List.zip_cons_cons, List.lookup_cons]
          simp only [beq_eq_false_iff_ne.mpr hne]
          exact ih (List.nodup_cons.mp nd).2 h
    exact this nd hq) (nd.sublist (List.drop_sublist _ _))
  unfold bindArgs
  simp only [h1, h2, h3, h4, h5, h6, List.map_nil, List.nil_append, List.append_nil]
  rw [loop _ (fun x s hx hs => by
    rw [if_pos (by rw [hx]; rfl), if_neg (by rw [hs]; decide)])]
  rw [LawfulMonad.pure_bind, zip_app _ _ _ (by omega)]
  have e0 : seqItems? Value.none = pure none := rfl
  rw [e0, LawfulMonad.pure_bind]
  simp only
  have e1 : (ps.filter fun n => ((ps.zip (us ++ ws)).lookup n).isNone) = [] := by
    rw [List.filter_eq_nil_iff]
    intro q hq
    obtain ⟨u, hu⟩ := zip_some nd hl hq
    rw [hu]; simp
  simp only [Option.getD_none, List.drop_nil, List.length_nil, Nat.sub_zero, List.take_length, e1, List.isEmpty_nil, Bool.not_true, List.zip_nil_right, List.forIn_nil, zip_map nd hl]
  rw [if_neg (by simp; omega)]
  rw [if_neg (by decide)]
  exact congrArg (pure : List (Str × Value) → Sem (List (Str × Value))) (zip_map nd hl)

/-- a def as the text has it -/
structure DD where
  x : Str
  qual : Str
  params : Arguments
  body : List Stmt
  scope : Scope
  N : List Str
  ps : List Str
  bx : List (Nat × Nat × Nat)
def Simple (p : Arguments) (ps : List Str) : Prop := p.posonlyargs = [] ∧ p.kwonlyargs = [] ∧ p.vararg = none ∧ p.kwarg = none ∧ p.args.map (·.arg) = ps
/-- it is the compiled one -/
structure DOk (gl : List (Str × GV)) (fl : List (Str × Nat)) (D : DD) (d : Def) : Prop where
  sc : FnScope D.N D.ps D.scope
  np : D.ps.length = d.np
  ns : D.N.length = d.ns
  pr : Simple D.params D.ps
  nd : D.ps.Nodup
  comp : ∃ n, compSs n ⟨D.N, D.scope, gl, fl, D.bx, true, []⟩ D.body = some d.body
section
variable {K : PySem.W.Frag} {x qual : Str} {params : Arguments} {body : List Stmt} {scope : Scope} {f : Addr} {fd : FuncData} {ps : List Str}
theorem FunD.bnd (F : FunD K x qual params body scope [] [] f fd) (hp : Simple params ps) (nd : ps.Nodup) {us ws : List Value} (hl : (us ++ ws).length = ps.length) : bindArgs fd ⟨us, (ps.drop us.length).zip ws⟩ = pure (ps.zip (us ++ ws)) := by
  obtain ⟨oc, od, dV, kV, doc, pm, an, cdv, ct, osl, rfl, _, _, hd, _⟩ := F.ex
  obtain ⟨h1, h2, h3, h4, h5⟩ := hp
  have e : dV = .none := by
    rcases hd with ⟨_, e⟩ | ⟨e, _⟩
    · exact e
    · exact absurd rfl e
  subst e
  exact bind_gen h1 h2 h3 h4 h5 rfl nd hl
theorem FunD.bi (F : FunD K x qual params body scope [] [] f fd) (hp : Simple params ps) (nd : ps.Nodup) : Binds K fd ps [] := Binds.all fun us hl => by
  have := FunD.bnd (us := us) (ws := []) F hp nd (by simpa using hl)
  simpa using this
theorem FunD.kbi (F : FunD K x qual params body scope [] [] f fd) (hp : Simple params ps) (nd : ps.Nodup) (j : Nat) : KBind K fd ps (ps.drop j) := fun s us ws _ h1 h2 => by
  have e : ps.drop j = ps.drop us.length := by
    have h3 : us.length + ws.length = ps.length := by simpa using h2
    have h4 : ws.length = ps.length - j := by simpa using h1
    by_cases hj : j ≤ ps.length
    · have : j = us.length := by omega
      rw [this]
    · rw [List.drop_eq_nil_of_le (by omega), List.drop_eq_nil_of_le (by omega)]
  rw [e]
  exact .of_eq (FunD.bnd F hp nd h2)
theorem FunD.uniq {fd' : FuncData} (F : FunD K x qual params body scope [] [] f fd) (F' : FunD K x qual params body scope [] [] f fd') : fd = fd' := by
  obtain ⟨_, _, _, _, _, _, _, _, _, _, h1, h2, _⟩ := F.ex
  obtain ⟨_, _, _, _, _, _, _, _, _, _, h3, h4, _⟩ := F'.ex
  rw [h2] at h4
  cases h4
  rfl
end
/-- what the world has, of the tables -/
structure Wld (K : PySem.W.Frag) (mg : Str → Option Value) (T : Tie) (P : Prog) (fa : Nat → Addr) (dd : Nat → Option DD) (gl : List (Str × GV)) (fl : List (Str × Nat)) : Prop where
  xp : T.xp = none
  inj : ∀ f g, T.nm f = T.nm g → f = g
  fld : ∀ q ∈ fl, T.nm q.2 = q.1
  cls : ∀ c, T.has c = true → Cls K (T.ca c)
  att : ∀ c f, T.has c = true → P.attr c f = true → NoAttr K (T.ca c) (T.nm f)
  meth : ∀ c m f, T.has c = true → P.meth c m = some f → Meth K (T.ca c) (T.nm m) (fa f)
  fns : ∀ f d, P.fn f = some d → ∃ D fd, dd f = some D ∧ FunD K D.x D.qual D.params D.body D.scope [] [] (fa f) fd ∧ DOk gl fl D d
  gfn : ∀ x f qs, (x, GV.fn f qs) ∈ gl → (∃ d, P.fn f = some d) ∧ mg x = some (.ref (fa f)) ∧ ∃ D, dd f = some D ∧ D.ps = qs
  gcl : ∀ x c, (x, GV.cls c) ∈ gl → ∃ f d, P.init c = some f ∧ P.fn f = some d ∧ Mk K (T.ca c) (fa f) ∧ T.has c = true ∧ mg x = some (.ref (T.ca c))
  gco : ∀ x i, (x, GV.con i) ∈ gl → ∃ v u z, P.con i = some z ∧ mg x = some u ∧ RelV v u ∧ ∀ ι G H h, Rep K T ι G H h → RV K ι G H v z
  gbl : ∀ x, (x, GV.blt) ∈ gl → mg x = none
section
variable {prog : Program} {w : World} {K : PySem.W.Frag} {mg : Str → Option Value} {base : Heap} {T : Tie} {P : Prog} {fa : Nat → Addr} {dd : Nat → Option DD} {gl : List (Str × GV)} {fl : List (Str × Nat)} {wf : Nat}
/-- the promises at a depth of calls -/
def FnsOk (prog : Program) (w : World) (K : PySem.W.Frag) (mg : Str → Option Value) (base : Heap) (T : Tie) (P : Prog) (fa : Nat → Addr) (dd : Nat → Option DD) (wf n : Nat) : Prop :=
  ∀ f d, P.fn f = some d → ∃ D fd, dd f = some D ∧ FnOk prog w K mg base (L2.CX prog w) (2 * n) (fa f) fd D.ps (spC K T d.np (callN P wf n f)) ∧ Binds K fd D.ps [] ∧ (∀ j, KBind K fd D.ps (D.ps.drop j)) ∧ PySem.W.keepIn K (.ref (fa f)) = true ∧ FunD K D.x D.qual D.params D.body D.scope [] [] (fa f) fd
theorem callN_ar {n : Nat} : ∀ f vs h, (∀ d, P.fn f = some d → vs.length ≠ d.np) → callN P wf n f vs h = .bad := by
  intro f vs h hd
  cases n with
  | zero => rfl
  | succ n =>
    unfold callN
    cases e : P.fn f with
    | none => rfl
    | some d => simp only; rw [if_neg (hd d e)]
theorem wd_of {X : Cx} {n : Nat} (B : Wld K mg T P fa dd gl fl) (F : FnsOk prog w K mg base T P fa dd wf n) (h1 : X.prog = prog) (h2 : X.w = w) (h3 : X.K = K) (h4 : X.mg = mg) (h5 : X.base = base) : Wd X T P (callN P wf n) (2 * n) fa gl fl := by
  subst h1; subst h2; subst h3; subst h4; subst h5
  refine ⟨⟨B.cls, B.inj, B.meth, fun f d h => ?_, callN_ar⟩, ⟨B.inj, B.cls, B.att⟩, B.fld, fun q hq => ?_⟩
  · obtain ⟨D, fd, _, e1, e2, _, e3, _⟩ := F f d h
    exact ⟨fd, D.ps, e1, e2, e3⟩
  · obtain ⟨x, g⟩ := q
    cases g with
    | fn f qs =>
      obtain ⟨⟨d, hd⟩, hm, D, hD, rfl⟩ := B.gfn x f qs hq
      obtain ⟨D', fd, e0, e1, e2, e3, e4, _⟩ := F f d hd
      rw [hD] at e0; cases e0
      exact ⟨d, fd, D.ps, hd, e1, e2, e4, hm, e3⟩
    | cls c =>
      obtain ⟨f, d, a1, a2, a3, a4, a5⟩ := B.gcl x c hq
      obtain ⟨D', fd, e0, e1, e2, e3, e4, _⟩ := F f d a2
      exact ⟨f, d, fd, D'.ps, a1, a2, e1, e2, a3, a4, a5⟩
    | con i => exact B.gco x i hq
    | blt => exact B.gbl x hq
theorem re_start {ι : Io} {G : Gh} {H : Hp} {vs : List V} {xs : List Val} {N : List Str} (hx : T.xp = none) (r : RVs K ι G H vs xs) : RE K T ι G H (L2.start N vs) (xs.map some ++ List.replicate (N.length - xs.length) none) where
  len := by unfold L2.start; simp [r.length]
  at_ := fun i x e => by
    have hi : i < xs.length := by
      by_cases hi : i < xs.length
      · exact hi
      · rw [List.getElem?_append_right (by simpa using hi), List.getElem?_replicate] at e
        split at e <;> cases e
    rw [List.getElem?_append_left (by simpa using hi), List.getElem?_map] at e
    have e2 : xs[i]? = some x := by
      cases z : xs[i]? with
      | none => rw [z] at e; cases e
      | some y => rw [z] at e; cases e; rfl
    obtain ⟨v, hv, rv⟩ := r.get e2
    refine ⟨v, ?_, rv⟩
    unfold L2.start
    rw [List.getElem?_append_left (by simpa [r.length] using hi), List.getElem?_map, hv]
    rfl
  x := by unfold XOk; rw [hx]; trivial
theorem fnsOk (prog : Program) (w : World) (base : Heap) (wf : Nat) (B : Wld K mg T P fa dd gl fl) : ∀ n, FnsOk prog w K mg base T P fa dd wf n
  | 0 => fun f d h => by
    obtain ⟨D, fd, e1, e2, e3⟩ := B.fns f d h
    refine ⟨D, fd, e1, ⟨fun vs H Q E hs => ?_, fun A outer s H args us vs Q E _ _ _ _ hs => ?_⟩, FunD.bi e2 e3.pr e3.nd, FunD.kbi e2 e3.pr e3.nd, e2.kp, e2⟩
    · obtain ⟨_, _, _, _, _, _, _, z⟩ := hs; exact z.elim
    · obtain ⟨_, _, _, _, _, _, _, z⟩ := hs; exact z.elim
  | n + 1 => fun f d h => by
    obtain ⟨D, fd, e1, e2, e3⟩ := B.fns f d h
    have ih := fnsOk prog w base wf B n
    refine ⟨D, fd, e1, ?_, FunD.bi e2 e3.pr e3.nd, FunD.kbi e2 e3.pr e3.nd, e2.kp, e2⟩
    refine FunD.ok (k := 2 * n + 1) e2 e3.sc (spC.len e3.np) fun cdv A outer s H vs Q E hr hs => ?_
    obtain ⟨m, hm⟩ := e3.comp
    let X := cxOf (L2.CX prog w) prog w K mg base D.N D.qual D.scope (fa f) cdv A outer s H E
    have at_ : At X ⟨D.N, D.scope, gl, fl, D.bx, true, []⟩ T ⟨P, wf, callN P wf n, none⟩ (2 * n) fa := ⟨rfl, e3.sc.nd, rfl, fun _ _ => rfl, rfl, wd_of B ih rfl rfl rfl rfl rfl, hr⟩
    have tk : Takes X (fun cls d _ H => E cls d H) := takes_of rfl rfl rfl rfl
    refine ⟨_, (sndT T ⟨P, wf, callN P wf n, none⟩ (2 * n) fa m).2 X _ _ D.body d.body at_ tk (passes_of rfl) e3.sc.kind hm, ?_⟩
    obtain ⟨ι, G, hh, xs, R, rv, hl, F⟩ := hs
    refine ⟨ι, G, hh, _, R, re_start B.xp rv, ?_⟩
    unfold callN at F
    rw [h] at F
    simp only at F
    rw [if_pos hl, ← e3.ns, ← hl] at F
    revert F
    cases exSs ⟨P, wf, callN P wf n, none⟩ d.body (xs.map some ++ List.replicate (D.N.length - xs.length) none) hh with
    | nx env' h' => exact fun F ι' H' σ' e rp re => F ι' H' .non e rp .non
    | rt v h' => exact fun F => F
    | bk _ _ => exact fun F => F.elim
    | ct _ _ => exact fun F => F.elim
    | bad => exact fun F => F.elim
    | ex c fs env' h' => exact fun F ι' H' σ' cls d e rp re rx => F ι' H' cls d e rp rx
end
end G

set_option maxHeartbeats 4000000
/-! GTab: the tables of a law, the head's facts, the law. -/
namespace G
open PySem PySem.Spec PyProof.Rows L2
structure FnT where
  at_ : Str × Option Str
  D : DD
  d : Def
structure ClT where
  x : Str
  meths : List (Nat × Nat)
  init : Option Nat
  flds : List Nat
structure TB where
  fns : List (Nat × FnT)
  cls : List (Nat × ClT)
  cons : List (Nat × Str × Val)
  nms : List (Nat × Str)
  blts : List Str
def nlk {α : Type} : List (Nat × α) → Nat → Option α
  | [], _ => none
  | (m, a) :: r, n => match Nat.beq m n with
    | true => some a
    | false => nlk r n
theorem nlk_mem {α : Type} : ∀ {l : List (Nat × α)} {n : Nat} {a : α}, nlk l n = some a → (n, a) ∈ l
  | [], _, _, h => by cases h
  | (m, b) :: r, n, a, h => by
    unfold nlk at h
    split at h
    · rename_i e
      cases h
      rw [Nat.eq_of_beq_eq_true e]
      exact List.mem_cons_self
    · exact List.mem_cons_of_mem _ (nlk_mem h)
theorem mem_nlk {α : Type} : ∀ {l : List (Nat × α)} {n : Nat} {a : α}, (l.map (·.1)).Nodup → (n, a) ∈ l → nlk l n = some a
  | [], _, _, _, h => by cases h
  | (m, b) :: r, n, a, nd, h => by
    unfold nlk
    rcases List.mem_cons.mp h with e | h
    · cases e
      rw [show Nat.beq m m = true from Nat.beq_refl m]
    · have hne : m ≠ n := by
        rintro rfl
        exact (List.nodup_cons.mp nd).1 (List.mem_map.mpr ⟨_, h, rfl⟩)
      rw [show Nat.beq m n = false from Bool.eq_false_iff.mpr fun z => hne (Nat.eq_of_beq_eq_true z)]
      exact mem_nlk (List.nodup_cons.mp nd).2 h
namespace TB
variable (t : TB)
def nm (f : Nat) : Str := match nlk t.nms f with
  | some x => x
  | none => st [0, f]
def prog : Prog where
  fn := fun f => (nlk t.fns f).map (·.d)
  meth := fun c m => (nlk t.cls c).bind fun q => nlk q.meths m
  init := fun c => (nlk t.cls c).bind (·.init)
  con := fun i => (nlk t.cons i).map (·.2)
  attr := fun c f => match nlk t.cls c with
    | some q => q.flds.any fun g => Nat.beq g f
    | none => false
  exc := fun _ => none
  sub := fun _ _ => false
def fa (K : PySem.W.Frag) (f : Nat) : Addr := match nlk t.fns f with
  | some p => He.fAd K p.at_
  | none => 0
def tie (K : PySem.W.Frag) : Tie where
  nm := t.nm
  ca := fun c => match nlk t.cls c with
    | some q => He.ga K q.x
    | none => 0
  has := fun c => (nlk t.cls c).isSome
def dd (f : Nat) : Option DD := (nlk t.fns f).map (·.D)
def gl : List (Str × GV) := (t.fns.filterMap fun p => match p.2.at_.2 with
    | none => some (p.2.at_.1, GV.fn p.1 p.2.D.ps)
    | some _ => none) ++ (t.cls.map fun q => (q.2.x, GV.cls q.1)) ++ (t.cons.map fun q => (q.2.1, GV.con q.1)) ++ t.blts.map fun x => (x, GV.blt)
def fl : List (Str × Nat) := t.nms.map fun q => (q.2, q.1)
end TB
/-! ### constants -/
mutual
def conB (K : PySem.W.Frag) : Val → Value → Bool
  | .non, u => match u with | .none => true | _ => false
  | .bl b, u => match u with | .bool c => b == c | _ => false
  | .int i, u => match u with | .int j _ => decide (i = j) | _ => false
  | .str s, u => match u with | .str z _ => decide (s = z) | _ => false
  | .tup xs, u => match u with
    | .ref p => match K.lookup p with
      | some ⟨.type c, _, .seq its _, _⟩ => decide (c = "tuple") && (decide (its.size ≤ sizeLine) && conL K xs its.toList)
      | _ => false
    | _ => false
  | .rol xs, u => match u with
    | .ref p => match K.lookup p with
      | some ⟨.type c, none, .seq its _, _⟩ => decide (c = "list") && (decide (its.size ≤ sizeLine) && conL K xs its.toList)
      | _ => false
    | _ => false
  | _, _ => false
def conL (K : PySem.W.Frag) : List Val → List Value → Bool
  | [], [] => true
  | x :: xs, u :: us => conB K x u && conL K xs us
  | _, _ => false
end
mutual
theorem conB_ok {K : PySem.W.Frag} : ∀ {x : Val} {u : Value}, conB K x u = true → ∃ v, RelV v u ∧ ∀ ι G H, RV K ι G H v x
  | .non, u, h => by
    simp only [conB] at h
    split at h
    · exact ⟨.non, rfl, fun _ _ _ => .non⟩
    · cases h
  | .bl b, u, h => by
    simp only [conB] at h
    split at h
    · rename_i c
      have : b = c := by simpa using h
      subst this
      exact ⟨.bl b, rfl, fun _ _ _ => .bl b⟩
    · cases h
  | .int i, u, h => by
    simp only [conB] at h
    split at h
    · rename_i j tk
      have := of_decide_eq_true h
      subst this
      exact ⟨.int i, ⟨tk, rfl⟩, fun _ _ _ => .int i⟩
    · cases h
  | .str s, u, h => by
    simp only [conB] at h
    split at h
    · rename_i z tk
      have := of_decide_eq_true h
      subst this
      exact ⟨.str s, ⟨tk, rfl⟩, fun _ _ _ => .str s⟩
    · cases h
  | .tup xs, u, h => by
    simp only [conB] at h
    split at h
    · rename_i p
      split at h
      · rename_i c dd its n sl hK
        simp only [Bool.and_eq_true] at h
        obtain ⟨h1, h2, h3⟩ := h
        have h1 := of_decide_eq_true h1
        subst h1
        obtain ⟨vs, r, q⟩ := conL_ok h3
        exact ⟨.ref p, rfl, fun ι G H => .tup (.inr ⟨_, its, n, hK, rfl, rfl, of_decide_eq_true h2, r⟩) (q ι G H)⟩
      · cases h
    · cases h
  | .rol xs, u, h => by
    simp only [conB] at h
    split at h
    · rename_i p
      split at h
      · rename_i c its n sl hK
        simp only [Bool.and_eq_true] at h
        obtain ⟨h1, h2, h3⟩ := h
        have h1 := of_decide_eq_true h1
        subst h1
        obtain ⟨vs, r, q⟩ := conL_ok h3
        exact ⟨.ref p, rfl, fun ι G H => .rol (.inr ⟨_, its, n, hK, rfl, rfl, rfl, of_decide_eq_true h2, r⟩) (q ι G H)⟩
      · cases h
    · cases h
  | .lst _, _, h => by simp only [conB] at h; cases h
  | .ref _, _, h => by simp only [conB] at h; cases h
theorem conL_ok {K : PySem.W.Frag} : ∀ {xs : List Val} {us : List Value}, conL K xs us = true → ∃ vs, Vals vs us ∧ ∀ ι G H, RVs K ι G H vs xs
  | [], [], _ => ⟨[], .nil, fun _ _ _ => .nil⟩
  | [], _ :: _, h => by cases h
  | _ :: _, [], h => by cases h
  | x :: xs, u :: us, h => by
    have h : (conB K x u && conL K xs us) = true := h
    rw [Bool.and_eq_true] at h
    obtain ⟨v, r, q⟩ := conB_ok h.1
    obtain ⟨vs, r2, q2⟩ := conL_ok h.2
    exact ⟨v :: vs, .cons r r2, fun ι G H => .cons (q ι G H) (q2 ι G H)⟩
end
/-! ### the facts -/
namespace TB
def atOf (t : TB) (f : Nat) : Str × Option Str := match nlk t.fns f with
  | some p => p.at_
  | none => (st [], none)
def clsB (t : TB) (K : PySem.W.Frag) (q : ClT) : Bool :=
  (He.Fa.cls q.x).ok K && ((He.Fa.glo q.x).ok K && ((q.flds.all fun f => (He.Fa.noat q.x (t.nm f)).ok K) && ((q.meths.all fun m => (He.Fa.meth q.x (t.nm m.1)).ok K && Nat.beq (He.ma K (He.ga K q.x) (t.nm m.1)) (He.fAd K (t.atOf m.2))) &&
    (match q.init with
    | some f => (He.Fa.mkr q.x).ok K && Nat.beq (He.ma K (He.ga K q.x) "__init__") (He.fAd K (t.atOf f))
    | none => true))))
def conOk (K : PySem.W.Frag) (q : Nat × Str × Val) : Bool := match PySem.W.nsIn K mainGlobals q.2.1 with
  | some (some u) => conB K q.2.2 u
  | _ => false
def fnB (K : PySem.W.Frag) (p : Nat × FnT) : Bool := match p.2.at_.2 with
  | none => (He.Fa.glo p.2.at_.1).ok K
  | some _ => true
def dfd (p : Nat × FnT) : He.DefD := ⟨p.2.at_, p.2.D.x, p.2.D.qual, p.2.D.params, p.2.D.body, p.2.D.scope, [], []⟩
def ok (t : TB) (K : PySem.W.Frag) : Bool := (t.fns.all (fnB K)) && ((t.cls.all fun q => t.clsB K q.2) && ((t.cons.all (conOk K)) && (t.blts.all fun x => (He.Fa.free x).ok K)))
def obs (t : TB) (K : PySem.W.Frag) : He.AlD := (t.ok K && t.fns.all fun p => (dfd p).ok K, t.fns.map fun p => He.fnW K p.2.at_)
def val (t : TB) : He.AlD := (true, t.fns.map fun p => (dfd p).val)
def obsN (t : TB) (n : Nat) (g : Addr → Option Obj) : He.AlD := t.obs (He.frG g (He.asD g n))
def hook (t : TB) (n : Nat) : PySem.W.Hook where
  α := He.AlD
  obs := fun s => t.obsN n s.heap.get?
  val := fun _ => t.val
  says := fun _ h => ∃ K : PySem.W.Frag, K.In h ∧ t.obs K = t.val
  of := fun _ _ e => ⟨_, He.frG_in, e⟩
  keeps := fun _ _ _ ⟨K, hK, c⟩ k => ⟨K, PySem.W.Frag.In.keeps hK k, c⟩
theorem obs_eq {t : TB} {n : Nat} {g : Addr → Option Obj} {s : Shared} (h : ∀ a, g a = s.heap.get? a) : t.obsN n g = (t.hook n).obs s := by
  have e : g = s.heap.get? := funext h
  rw [e]; rfl
/-- what holds of the tables alone -/
structure St (t : TB) : Prop where
  fk : (t.fns.map (·.1)).Nodup
  ck : (t.cls.map (·.1)).Nodup
  ok : (t.cons.map (·.1)).Nodup
  nk : (t.nms.map (·.1)).Nodup
  nn : (t.nms.map (·.2)).Nodup
  nh : ∀ q ∈ t.nms, q.2.cps.toList.head? ≠ some 0
  ini : ∀ q ∈ t.cls, ∃ f p, q.2.init = some f ∧ nlk t.fns f = some p
  mth : ∀ q ∈ t.cls, ∀ m ∈ q.2.meths, ∃ p, nlk t.fns m.2 = some p
  fn : ∀ p ∈ t.fns, DOk t.gl t.fl p.2.D p.2.d
theorem nodup_inj {α β : Type} : ∀ {l : List (α × β)} {a a' : α} {b : β}, (l.map (·.2)).Nodup → (a, b) ∈ l → (a', b) ∈ l → a = a'
  | [], _, _, _, _, h, _ => by cases h
  | (x, y) :: r, a, a', b, nd, h, h' => by
    have nd' := List.nodup_cons.mp nd
    rcases List.mem_cons.mp h with e | h
    · cases e
      rcases List.mem_cons.mp h' with e | h'
      · cases e; rfl
      · exact absurd (List.mem_map.mpr ⟨_, h', rfl⟩) nd'.1
    · rcases List.mem_cons.mp h' with e | h'
      · cases e; exact absurd (List.mem_map.mpr ⟨_, h, rfl⟩) nd'.1
      · exact nodup_inj nd'.2 h h'
theorem nm_inj {t : TB} (s : St t) : ∀ f g, t.nm f = t.nm g → f = g := by
  intro f g e
  unfold nm at e
  cases hf : nlk t.nms f with
  | none =>
    cases hg : nlk t.nms g with
    | none =>
      rw [hf, hg] at e
      have := st_inj.mp e
      simpa using this
    | some y =>
      rw [hf, hg] at e
      have e : st [0, f] = y := e
      exact absurd (by rw [← e]; rfl) (s.nh _ (nlk_mem hg))
  | some x =>
    cases hg : nlk t.nms g with
    | none =>
      rw [hf, hg] at e
      have e : x = st [0, g] := e
      exact absurd (by rw [e]; rfl) (s.nh _ (nlk_mem hf))
    | some y =>
      rw [hf, hg] at e
      have e : x = y := e
      subst e
      exact nodup_inj s.nn (nlk_mem hf) (nlk_mem hg)
theorem nm_of {t : TB} (s : St t) {q : Nat × Str} (h : q ∈ t.nms) : t.nm q.1 = q.2 := by
  unfold nm
  rw [mem_nlk s.nk h]
theorem wld {t : TB} (s : St t) {K : PySem.W.Frag} {h : Heap} {mg : Str → Option Value} (X : K.In h) (G : h.Ns mainGlobals mg) (c : t.obs K = t.val) : Wld K mg (t.tie K) t.prog (t.fa K) t.dd t.gl t.fl := by
  have c1 : (t.ok K && t.fns.all fun p => (dfd p).ok K) = true := congrArg Prod.fst c
  have c2 : t.fns.map (fun p => He.fnW K p.2.at_) = t.fns.map (fun p => (dfd p).val) := congrArg Prod.snd c
  unfold ok at c1
  simp only [Bool.and_eq_true] at c1
  obtain ⟨⟨a1, a2, a3, a4⟩, a5⟩ := c1
  have b1 := List.all_eq_true.mp a1
  have b2 := List.all_eq_true.mp a2
  have b3 := List.all_eq_true.mp a3
  have b4 := List.all_eq_true.mp a4
  have b5 := List.all_eq_true.mp a5
  have b6 : ∀ p ∈ t.fns, He.fnW K p.2.at_ = (dfd p).val := fun p hp => by
    have := List.map_inj_left.mp c2
    exact this p hp
  have cl : ∀ c q, nlk t.cls c = some q → t.clsB K q = true := fun c q e => b2 (c, q) (nlk_mem e)
  have clx : ∀ q, t.clsB K q = true → (He.Fa.cls q.x).ok K = true ∧ (He.Fa.glo q.x).ok K = true ∧ (∀ f ∈ q.flds, (He.Fa.noat q.x (t.nm f)).ok K = true) ∧ (∀ m ∈ q.meths, (He.Fa.meth q.x (t.nm m.1)).ok K = true ∧ He.ma K (He.ga K q.x) (t.nm m.1) = He.fAd K (t.atOf m.2)) ∧
      ∀ f, q.init = some f → (He.Fa.mkr q.x).ok K = true ∧ He.ma K (He.ga K q.x) "__init__" = He.fAd K (t.atOf f) := fun q e => by
    unfold clsB at e
    simp only [Bool.and_eq_true] at e
    obtain ⟨e1, e2, e3, e4, e5⟩ := e
    refine ⟨e1, e2, List.all_eq_true.mp e3, fun m hm => ?_, fun f hf => ?_⟩
    · have := List.all_eq_true.mp e4 m hm
      rw [Bool.and_eq_true] at this
      exact ⟨this.1, Nat.eq_of_beq_eq_true this.2⟩
    · rw [hf] at e5
      simp only [Bool.and_eq_true] at e5
      exact ⟨e5.1, Nat.eq_of_beq_eq_true e5.2⟩
  have fa_at : ∀ {f p}, nlk t.fns f = some p → t.fa K f = He.fAd K p.at_ ∧ t.atOf f = p.at_ := fun {f p} e => by
    unfold fa atOf
    rw [e]
    exact ⟨rfl, rfl⟩
  refine ⟨rfl, nm_inj s, fun q hq => ?_, fun c hc => ?_, fun c f hc hf => ?_, fun c m f hc hm => ?_, fun f d hd => ?_, fun x f qs hq => ?_, fun x c hq => ?_, fun x i hq => ?_, fun x hq => ?_⟩
  · obtain ⟨q', hq', rfl⟩ := List.mem_map.mp hq
    exact nm_of s hq'
  · have hc : (nlk t.cls c).isSome = true := hc
    obtain ⟨q, e⟩ := Option.isSome_iff_exists.mp hc
    show Cls K (match nlk t.cls c with | some q => He.ga K q.x | none => 0)
    rw [e]
    exact He.cls_ok (clx q (cl c q e)).1
  · have hc : (nlk t.cls c).isSome = true := hc
    obtain ⟨q, e⟩ := Option.isSome_iff_exists.mp hc
    have hf : (match nlk t.cls c with | some q => q.flds.any fun g => Nat.beq g f | none => false) = true := hf
    show NoAttr K (match nlk t.cls c with | some q => He.ga K q.x | none => 0) (t.nm f)
    rw [e] at hf ⊢
    obtain ⟨g, hg, eg⟩ := List.any_eq_true.mp hf
    rw [← Nat.eq_of_beq_eq_true eg]
    exact He.noat_ok ((clx q (cl c q e)).2.2.1 g hg)
  · have hm : ((nlk t.cls c).bind fun q => nlk q.meths m) = some f := hm
    cases e : nlk t.cls c with
    | none => rw [e] at hm; cases hm
    | some q =>
      rw [e] at hm
      have hm := nlk_mem hm
      obtain ⟨z1, z2⟩ := (clx q (cl c q e)).2.2.2.1 _ hm
      obtain ⟨p, hp⟩ := s.mth _ (nlk_mem e) _ hm
      show Meth K (match nlk t.cls c with | some q => He.ga K q.x | none => 0) (t.nm m) (t.fa K f)
      rw [e, (fa_at hp).1, ← (fa_at hp).2, ← z2]
      exact He.meth_ok z1
  · have hd : (nlk t.fns f).map (·.d) = some d := hd
    cases e : nlk t.fns f with
    | none => rw [e] at hd; cases hd
    | some p =>
      rw [e] at hd
      cases hd
      have hm := nlk_mem e
      obtain ⟨fd, hfd⟩ := He.DefD.funD (b6 _ hm) (b5 _ hm)
      refine ⟨p.D, fd, ?_, ?_, s.fn _ hm⟩
      · show (nlk t.fns f).map (·.D) = _
        rw [e]; rfl
      · rw [(fa_at e).1]
        exact hfd
  · unfold gl at hq
    simp only [List.mem_append] at hq
    rcases hq with ((hq | hq) | hq) | hq
    · obtain ⟨p, hp, e⟩ := List.mem_filterMap.mp hq
      split at e
      · rename_i hn
        cases e
        have e := mem_nlk (n := p.1) (a := p.2) s.fk hp
        refine ⟨⟨p.2.d, ?_⟩, ?_, p.2.D, ?_, rfl⟩
        · show (nlk t.fns p.1).map (·.d) = _
          rw [e]; rfl
        · have z := b1 p hp
          unfold fnB at z
          rw [hn] at z
          rw [(fa_at e).1, He.glo_ok X G z]
          unfold He.fAd
          rw [hn]
        · show (nlk t.fns p.1).map (·.D) = _
          rw [e]; rfl
      · cases e
    · obtain ⟨_, _, e⟩ := List.mem_map.mp hq; cases e
    · obtain ⟨_, _, e⟩ := List.mem_map.mp hq; cases e
    · obtain ⟨_, _, e⟩ := List.mem_map.mp hq; cases e
  · unfold gl at hq
    simp only [List.mem_append] at hq
    rcases hq with ((hq | hq) | hq) | hq
    · obtain ⟨p, hp, e⟩ := List.mem_filterMap.mp hq
      split at e <;> cases e
    · obtain ⟨q, hq2, e⟩ := List.mem_map.mp hq
      cases e
      have e := mem_nlk (n := q.1) (a := q.2) s.ck hq2
      obtain ⟨f, p, h1, h2⟩ := s.ini q hq2
      have z := clx q.2 (cl _ _ e)
      obtain ⟨z1, z2⟩ := z.2.2.2.2 f h1
      refine ⟨f, p.d, ?_, ?_, ?_, ?_, ?_⟩
      · show (nlk t.cls q.1).bind (·.init) = _
        rw [e]; exact h1
      · show (nlk t.fns f).map (·.d) = _
        rw [h2]; rfl
      · show Mk K (match nlk t.cls q.1 with | some q => He.ga K q.x | none => 0) (t.fa K f)
        rw [e, (fa_at h2).1, ← (fa_at h2).2, ← z2]
        exact He.mkr_ok z1
      · show (nlk t.cls q.1).isSome = true
        rw [e]; rfl
      · show _ = some (Value.ref (match nlk t.cls q.1 with | some q => He.ga K q.x | none => 0))
        rw [e]
        exact He.glo_ok X G z.2.1
    · obtain ⟨_, _, e⟩ := List.mem_map.mp hq; cases e
    · obtain ⟨_, _, e⟩ := List.mem_map.mp hq; cases e
  · unfold gl at hq
    simp only [List.mem_append] at hq
    rcases hq with ((hq | hq) | hq) | hq
    · obtain ⟨p, hp, e⟩ := List.mem_filterMap.mp hq
      split at e <;> cases e
    · obtain ⟨_, _, e⟩ := List.mem_map.mp hq; cases e
    · obtain ⟨q, hq2, e⟩ := List.mem_map.mp hq
      cases e
      have e := mem_nlk (n := q.1) (a := q.2) s.ok hq2
      have z := b3 q hq2
      unfold conOk at z
      split at z
      · rename_i u hu
        obtain ⟨v, r, rv⟩ := conB_ok z
        refine ⟨v, u, q.2.2, ?_, PySem.W.mg_of X G hu, r, fun ι G H _ _ => rv ι G H⟩
        show (nlk t.cons q.1).map (·.2) = _
        rw [e]; rfl
      · cases z
    · obtain ⟨_, _, e⟩ := List.mem_map.mp hq; cases e
  · unfold gl at hq
    simp only [List.mem_append] at hq
    rcases hq with ((hq | hq) | hq) | hq
    · obtain ⟨p, hp, e⟩ := List.mem_filterMap.mp hq
      split at e <;> cases e
    · obtain ⟨_, _, e⟩ := List.mem_map.mp hq; cases e
    · obtain ⟨_, _, e⟩ := List.mem_map.mp hq; cases e
    · obtain ⟨y, hy, e⟩ := List.mem_map.mp hq
      cases e
      exact He.free_ok X G (b4 _ hy)
/-- THE LAW: by what the evaluator gives -/
theorem law_ {t : TB} (s : St t) {l : PySem.W.OpenLaw} {q : Program} {loose : List Str} {XP : (Str → Option Value) → Heap → Prop} {d : DefRec} {n N wf f : Nat} {p : FnT} {x : Str}
    (hn : l.most = some n) (hn2 : n ≤ sizeLine) (hdf : d.params.defaults = []) (hr : Room (2 * N) callerA) (hf : nlk t.fns f = some p) (hp : p.at_ = (d.name, none)) (hx : p.D.ps = [x])
    (main : ∀ ns : List Int, ns.length ≤ n → (∀ z ∈ ns, Builtin.Int.intBits z ≤ 1048576) → ∃ h, callN t.prog wf N f [.rol (ns.map .int)] [] = .ok (.bl true) h) :
    PySem.W.WalkO q loose XP (t.hook 4).says l.row.toRowW d [] (fun f vs => PySem.call f vs) := by
  refine LamX.walk_ofTsE (l := l) (n := n) (k := 2 * N) (x := x) (CX := fun w => L2.CX l.prog w) hn hn2 hdf hr ?_ fun w H s e s' z => ?_
  · intro w mg fa h ⟨K, KX, c⟩ G hmg
    have B := wld s KX G c
    refine ⟨K, KX, ?_⟩
    have hd : t.prog.fn f = some p.d := by
      show (nlk t.fns f).map (·.d) = _
      rw [hf]; rfl
    have gm : (p.at_.1, GV.fn f p.D.ps) ∈ t.gl := by
      unfold gl
      simp only [List.mem_append]
      refine .inl (.inl (.inl (List.mem_filterMap.mpr ⟨_, nlk_mem hf, ?_⟩)))
      rw [hp]
    obtain ⟨_, hm, _⟩ := B.gfn _ _ _ gm
    have hfa : t.fa K f = fa := by
      rw [hp, hmg] at hm
      cases hm; rfl
    have hnp : p.d.np = 1 := by
      have := (s.fn _ (nlk_mem hf)).np
      rw [← this]
      show p.D.ps.length = 1
      rw [hx]; rfl
    obtain ⟨D, fd, hD, FD, DO⟩ := B.fns f p.d hd
    have hDe : D = p.D := by
      have hD : (nlk t.fns f).map (·.D) = some D := hD
      rw [hf] at hD
      cases hD; rfl
    subst hDe
    refine ⟨fd, [], spC K (t.tie K) 1 (callN t.prog wf N f), by simp, by simp, by simp, fun s u => ?_, fun H a ns h1 h2 _ hS => ?_, fun base _ _ _ => ?_⟩
    · have := FunD.bi FD DO.pr DO.nd s [u]
      have hb := DO.pr
      have := BindsTo.of_eq (s := s) (FunD.bnd (us := [u]) (ws := []) FD DO.pr DO.nd (by rw [hx]; rfl))
      rw [hx] at this
      simpa using this
    · obtain ⟨h', e⟩ := main ns h1 h2
      refine ⟨fun _ => none, fun _ => False, [], [.rol (ns.map .int)], ⟨(fun a o z => by simp at z), (fun _ _ _ z => by cases z), (fun _ _ => rfl), (fun _ z => z.elim), (fun _ z => z.elim)⟩, .cons (.rol (vs := ns.map V.int) ?_ ?_) .nil, rfl, ?_⟩
      · rcases hS with hS | hS
        · exact .inl ⟨hS, (fun _ z => by cases z), fun z => z⟩
        · exact .inr hS
      · induction ns with
        | nil => exact .nil
        | cons z zs ih => exact .cons (.int z) (RVs.of_get (by simp) fun i v x e1 e2 => by
            simp only [List.getElem?_map, Option.map_eq_some_iff] at e1 e2
            obtain ⟨j, e1, rfl⟩ := e1
            obtain ⟨j', e2, rfl⟩ := e2
            rw [e1] at e2
            cases e2
            exact .int j)
      · rw [e]
        intro ι' H' v _ _ rv
        cases rv
        rfl
    · obtain ⟨D', fd', hD', F, hb, _, _, FD'⟩ := fnsOk l.prog w base wf B N f p.d hd
      rw [hnp, hfa] at F
      rw [hD] at hD'
      cases hD'
      have e : fd' = fd := FunD.uniq FD' FD
      rw [← e, ← hx]
      exact F
  · obtain ⟨_, _, _, _, _, _, _, _, _, _, _, _, z⟩ := z
    exact z
end TB
end G

set_option maxHeartbeats 4000000
/-! GEv: the evaluator's equations, for simp; helps of the plain part. -/
namespace G
open PySem (Str PyData sizeLine)
open L2 (Key)
@[simp] theorem ev_v {M : Pm} {σ : Env} {h : LH} {i : _} : ev M σ (E.v i) h = (match σ[i]? with
    | some (some x) => .ok x h
    | _ => .bad) := rfl
@[simp] theorem ev_c {M : Pm} {σ : Env} {h : LH} {x : _} : ev M σ (E.c x) h = (.ok x h) := rfl
@[simp] theorem ev_g {M : Pm} {σ : Env} {h : LH} {i : _} : ev M σ (E.g i) h = (ofOpt (M.P.con i) h) := rfl
@[simp] theorem ev_bin {M : Pm} {σ : Env} {h : LH} {o : _} {a : _} {b : _} : ev M σ (E.bin o a b) h = ((ev M σ a h).bind fun x h1 => (ev M σ b h1).bind fun y h2 => ofOpt (opV h2 o x y) h2) := rfl
@[simp] theorem ev_neg {M : Pm} {σ : Env} {h : LH} {a : _} : ev M σ (E.neg a) h = ((ev M σ a h).bind fun x h1 => match x with
    | .int i => .ok (.int (-i)) h1
    | _ => .bad) := rfl
@[simp] theorem ev_cmp {M : Pm} {σ : Env} {h : LH} {o : _} {a : _} {b : _} : ev M σ (E.cmp o a b) h = ((ev M σ a h).bind fun x h1 => (ev M σ b h1).bind fun y h2 => ofOpt ((cmpV h2 o x y).map .bl) h2) := rfl
@[simp] theorem ev_cmp2 {M : Pm} {σ : Env} {h : LH} {o : _} {p : _} {a : _} {b : _} {c : _} : ev M σ (E.cmp2 o p a b c) h = ((ev M σ a h).bind fun x h1 => (ev M σ b h1).bind fun y h2 => (ofOpt (cmpV h2 o x y) h2).bind fun t h3 =>
      if t = true then (ev M σ c h3).bind fun z h4 => ofOpt ((cmpV h4 p y z).map .bl) h4 else .ok (.bl false) h3) := rfl
@[simp] theorem ev_and {M : Pm} {σ : Env} {h : LH} {a : _} {b : _} : ev M σ (E.and a b) h = ((ev M σ a h).bind fun x h1 => match x with
    | .bl t => if t = true then ev M σ b h1 else .ok (.bl false) h1
    | _ => .bad) := rfl
@[simp] theorem ev_or {M : Pm} {σ : Env} {h : LH} {a : _} {b : _} : ev M σ (E.or a b) h = ((ev M σ a h).bind fun x h1 => match x with
    | .bl t => if t = true then .ok (.bl true) h1 else ev M σ b h1
    | _ => .bad) := rfl
@[simp] theorem ev_not {M : Pm} {σ : Env} {h : LH} {a : _} : ev M σ (E.not a) h = ((ev M σ a h).bind fun x h1 => match x with
    | .bl t => .ok (.bl (!t)) h1
    | _ => .bad) := rfl
@[simp] theorem ev_ite {M : Pm} {σ : Env} {h : LH} {c : _} {a : _} {b : _} : ev M σ (E.ite c a b) h = ((ev M σ c h).bind fun x h1 => (ofOpt (truth h1 x) h1).bind fun t h2 => if t = true then ev M σ a h2 else ev M σ b h2) := rfl
@[simp] theorem ev_tup {M : Pm} {σ : Env} {h : LH} {es : _} : ev M σ (E.tup es) h = ((evs M σ es h).bind fun xs h1 => if xs.length ≤ sizeLine then .ok (.tup xs) h1 else .bad) := rfl
@[simp] theorem ev_fr {M : Pm} {σ : Env} {h : LH} {f : _} : ev M σ (E.fr f) h = ((evF M σ f h).bind fun xs h1 => .ok (.lst xs) h1) := rfl
@[simp] theorem ev_bx {M : Pm} {σ : Env} {h : LH} {f : _} : ev M σ (E.bx f) h = ((evF M σ f h).bind fun xs h1 => .ok (.ref h1.length) (h1 ++ [.lst xs])) := rfl
@[simp] theorem ev_ix {M : Pm} {σ : Env} {h : LH} {a : _} {b : _} : ev M σ (E.ix a b) h = ((ev M σ a h).bind fun x h1 => (ev M σ b h1).bind fun y h2 => ofOpt (ixVal h2 x y) h2) := rfl
@[simp] theorem ev_sl {M : Pm} {σ : Env} {h : LH} {a : _} {lo : _} {hi : _} : ev M σ (E.sl a lo hi) h = ((ev M σ a h).bind fun x h1 => (evO M σ lo h1).bind fun l h2 => (evO M σ hi h2).bind fun u h3 => ofOpt (slV h3 x l u) h3) := rfl
@[simp] theorem ev_fld {M : Pm} {σ : Env} {h : LH} {a : _} {f : _} : ev M σ (E.fld a f) h = ((ev M σ a h).bind fun x h1 => ofOpt (fldVal M.P h1 x f) h1) := rfl
@[simp] theorem ev_isi {M : Pm} {σ : Env} {h : LH} {a : _} {t : _} : ev M σ (E.isi a t) h = ((ev M σ a h).bind fun x h1 => ofOpt ((isiV h1 t x).map .bl) h1) := rfl
@[simp] theorem ev_xfld {M : Pm} {σ : Env} {h : LH} {f : _} : ev M σ (E.xfld f) h = (match M.xn with
    | some (_, fs) => ofOpt (fs.lookup f) h
    | none => .bad) := rfl
@[simp] theorem ev_xisi {M : Pm} {σ : Env} {h : LH} {t : _} : ev M σ (E.xisi t) h = (match M.xn, t with
    | some (c, _), .cls d => .ok (.bl (M.P.sub c d)) h
    | _, _ => .bad) := rfl
@[simp] theorem ev_call {M : Pm} {σ : Env} {h : LH} {f : _} {es : _} : ev M σ (E.call f es) h = ((evs M σ es h).bind fun vs h1 => M.call f vs h1) := rfl
@[simp] theorem ev_mk {M : Pm} {σ : Env} {h : LH} {c : _} {es : _} : ev M σ (E.mk c es) h = ((evs M σ es h).bind fun vs h1 => mkV M c vs h1) := rfl
@[simp] theorem ev_callk {M : Pm} {σ : Env} {h : LH} {f : _} {es : _} {ks : _} : ev M σ (E.callk f es ks) h = ((evs M σ es h).bind fun vs h1 => (evs M σ ks h1).bind fun ws h2 => M.call f (vs ++ ws) h2) := rfl
@[simp] theorem ev_mth {M : Pm} {σ : Env} {h : LH} {o : _} {m : _} {es : _} : ev M σ (E.mth o m es) h = ((ev M σ o h).bind fun x h1 => match findM M.P x m h1 with
    | some f => (evs M σ es h1).bind fun vs h2 => M.call f (x :: vs) h2
    | none => .bad) := rfl
@[simp] theorem ev_bi {M : Pm} {σ : Env} {h : LH} {b : _} {es : _} : ev M σ (E.bi b es) h = ((evs M σ es h).bind fun vs h1 => ofOpt (biV h1 b vs) h1) := rfl
@[simp] theorem ev_bm {M : Pm} {σ : Env} {h : LH} {o : _} {m : _} {es : _} : ev M σ (E.bm o m es) h = ((ev M σ o h).bind fun x h1 => if bmTy h1 m x = true then (evs M σ es h1).bind fun vs h2 => bmV h2 m x vs else .bad) := rfl
@[simp] theorem ev_rev {M : Pm} {σ : Env} {h : LH} {a : _} : ev M σ (E.rev a) h = ((ev M σ a h).bind fun x h1 => ofOpt (revV h1 x) h1) := rfl
@[simp] theorem evF_disp {M : Pm} {σ : Env} {h : LH} {es : _} : evF M σ (F.disp es) h = ((evs M σ es h).bind fun xs h1 => if xs.length ≤ sizeLine then .ok xs h1 else .bad) := rfl
@[simp] theorem evF_lc {M : Pm} {σ : Env} {h : LH} {tg : _} {it : _} {t : _} {e : _} : evF M σ (F.lc tg it t e) h = ((evI M σ it h).bind fun s h1 => match s.len h1 with
    | some n => compN (fun x h => match assignT tg x h (wipeT tg σ) with
        | some σ' => (ev M σ' t h).bind fun c h2 => (ofOpt (truth h2 c) h2).bind fun k h3 => if k = true then (ev M σ' e h3).bind fun y h4 => .ok (some y) h4 else .ok none h3
        | none => .bad) s n 0 [] h1
    | none => .bad) := rfl
@[simp] theorem evF_lc0 {M : Pm} {σ : Env} {h : LH} {tg : _} {it : _} {e : _} : evF M σ (F.lc0 tg it e) h = ((evI M σ it h).bind fun s h1 => match s.len h1 with
    | some n => compN (fun x h => match assignT tg x h (wipeT tg σ) with
        | some σ' => (ev M σ' e h).bind fun y h4 => .ok (some y) h4
        | none => .bad) s n 0 [] h1
    | none => .bad) := rfl
@[simp] theorem evF_cat {M : Pm} {σ : Env} {h : LH} {a : _} {b : _} : evF M σ (F.cat a b) h = ((ev M σ a h).bind fun x h1 => (ev M σ b h1).bind fun y h2 => ofOpt (catL h2 x y) h2) := rfl
@[simp] theorem evF_rep {M : Pm} {σ : Env} {h : LH} {a : _} {b : _} : evF M σ (F.rep a b) h = ((ev M σ a h).bind fun x h1 => (ev M σ b h1).bind fun y h2 => match y with
    | .int k => ofOpt (repL h2 x k) h2
    | _ => .bad) := rfl
@[simp] theorem evF_lslice {M : Pm} {σ : Env} {h : LH} {a : _} {lo : _} {hi : _} : evF M σ (F.lslice a lo hi) h = ((ev M σ a h).bind fun x h1 => (evO M σ lo h1).bind fun l h2 => (evO M σ hi h2).bind fun u h3 => match x with
    | .tup _ => .bad
    | x => ofOpt ((seqOf h3 x).map fun xs => cutL xs l u) h3) := rfl
@[simp] theorem evF_list {M : Pm} {σ : Env} {h : LH} {a : _} : evF M σ (F.list a) h = ((ev M σ a h).bind fun x h1 => ofOpt (seqOf h1 x) h1) := rfl
@[simp] theorem evO_none {M : Pm} {σ : Env} {h : LH} : evO M σ Oe.none h = (.ok none h) := rfl
@[simp] theorem evO_some {M : Pm} {σ : Env} {h : LH} {e : _} : evO M σ (Oe.some e) h = ((ev M σ e h).bind fun x h1 => match x with
    | .int i => .ok (some i) h1
    | _ => .bad) := rfl
@[simp] theorem evI_val {M : Pm} {σ : Env} {h : LH} {e : _} : evI M σ (Wk.val e) h = ((ev M σ e h).bind fun x h1 => (ofOpt (srcOf x h1) h1).bind fun s h2 => .ok (.one s) h2) := rfl
@[simp] theorem evI_rng {M : Pm} {σ : Env} {h : LH} {a : _} : evI M σ (Wk.rng a) h = ((ev M σ a h).bind fun x h1 => match x with
    | .int j => if rngOk j then .ok (.one (.fix (rngL 0 j.toNat))) h1 else .bad
    | _ => .bad) := rfl
@[simp] theorem evI_rng2 {M : Pm} {σ : Env} {h : LH} {a : _} {b : _} : evI M σ (Wk.rng2 a b) h = ((ev M σ a h).bind fun x h1 => (ev M σ b h1).bind fun y h2 => match x, y with
    | .int i, .int j => if rngOk i ∧ rngOk j then .ok (.one (.fix (rngL i (j - i).toNat))) h2 else .bad
    | _, _ => .bad) := rfl
@[simp] theorem evI_enum {M : Pm} {σ : Env} {h : LH} {e : _} : evI M σ (Wk.enum e) h = ((ev M σ e h).bind fun x h1 => (ofOpt (srcOf x h1) h1).bind fun s h2 => .ok (.enum s) h2) := rfl
@[simp] theorem evI_zip {M : Pm} {σ : Env} {h : LH} {a : _} {b : _} : evI M σ (Wk.zip a b) h = ((ev M σ a h).bind fun x h1 => (ev M σ b h1).bind fun y h2 => (ofOpt (srcOf x h2) h2).bind fun s h3 => (ofOpt (srcOf y h3) h3).bind fun t h4 => .ok (.zip s t) h4) := rfl
@[simp] theorem evs_nil {M : Pm} {σ : Env} {h : LH} : evs M σ Es.nil h = (.ok [] h) := rfl
@[simp] theorem evs_cons {M : Pm} {σ : Env} {h : LH} {e : _} {r : _} : evs M σ (Es.cons e r) h = ((ev M σ e h).bind fun x h1 => (evs M σ r h1).bind fun xs h2 => .ok (x :: xs) h2) := rfl
@[simp] theorem exS_set {M : Pm} {σ : Env} {h : LH} {t : _} {e : _} : exS M (S.set t e) σ h = ((ev M σ e h).sr σ fun x h1 => match assignT t x h1 σ with
    | some σ' => .nx σ' h1
    | none => .bad) := rfl
@[simp] theorem exS_fld {M : Pm} {σ : Env} {h : LH} {o : _} {f : _} {e : _} : exS M (S.fld o f e) σ h = ((ev M σ e h).sr σ fun y h1 => (ev M σ o h1).sr σ fun x h2 => match setFld M.P x y f h2 with
    | some h3 => .nx σ h3
    | none => .bad) := rfl
@[simp] theorem exS_fldA {M : Pm} {σ : Env} {h : LH} {o : _} {f : _} {op : _} {e : _} : exS M (S.fldA o f op e) σ h = ((ev M σ o h).sr σ fun x h1 => match fldVal M.P h1 x f with
    | some v => (ev M σ e h1).sr σ fun y h2 => match augV op v y with
      | some z => if clsV x h2 = clsV x h1 then match setFld M.P x z f h2 with
        | some h3 => .nx σ h3
        | none => .bad
        else .bad
      | none => .bad
    | none => .bad) := rfl
@[simp] theorem exS_aug {M : Pm} {σ : Env} {h : LH} {i : _} {op : _} {e : _} : exS M (S.aug i op e) σ h = (match σ[i]? with
    | some (some x) => (ev M σ e h).sr σ fun y h1 => match augV op x y with
      | some z => .nx (σ.set i (some z)) h1
      | none => .bad
    | _ => .bad) := rfl
@[simp] theorem exS_sub {M : Pm} {σ : Env} {h : LH} {o : _} {i : _} {e : _} : exS M (S.sub o i e) σ h = ((ev M σ e h).sr σ fun v h1 => (ev M σ o h1).sr σ fun x h2 => (ev M σ i h2).sr σ fun k h3 => match setSub x k v h3 with
    | some h4 => .nx σ h4
    | none => .bad) := rfl
@[simp] theorem exS_ex {M : Pm} {σ : Env} {h : LH} {e : _} : exS M (S.ex e) σ h = ((ev M σ e h).sr σ fun _ h1 => .nx σ h1) := rfl
@[simp] theorem exS_ret {M : Pm} {σ : Env} {h : LH} {e : _} : exS M (S.ret e) σ h = ((ev M σ e h).sr σ fun x h1 => .rt x h1) := rfl
@[simp] theorem exS_retN {M : Pm} {σ : Env} {h : LH} : exS M S.retN σ h = (.rt .non h) := rfl
@[simp] theorem exS_ite {M : Pm} {σ : Env} {h : LH} {c : _} {a : _} {b : _} : exS M (S.ite c a b) σ h = ((ev M σ c h).sr σ fun x h1 => (ofOpt (truth h1 x) h1).sr σ fun t h2 => if t = true then exSs M a σ h2 else exSs M b σ h2) := rfl
@[simp] theorem exS_for {M : Pm} {σ : Env} {h : LH} {t : _} {it : _} {b : _} : exS M (S.for t it b) σ h = ((evI M σ it h).sr σ fun s h1 => match s.len h1 with
    | some n => forN (exSs M b) t s n 0 σ h1
    | none => .bad) := rfl
@[simp] theorem exS_while {M : Pm} {σ : Env} {h : LH} {c : _} {b : _} : exS M (S.while c b) σ h = (whileN (fun σ h => (ev M σ c h).bind fun x h1 => ofOpt (truth h1 x) h1) (exSs M b) M.wf σ h) := rfl
@[simp] theorem exS_brk {M : Pm} {σ : Env} {h : LH} : exS M S.brk σ h = (.bk σ h) := rfl
@[simp] theorem exS_cont {M : Pm} {σ : Env} {h : LH} : exS M S.cont σ h = (.ct σ h) := rfl
@[simp] theorem exS_pass {M : Pm} {σ : Env} {h : LH} : exS M S.pass σ h = (.nx σ h) := rfl
@[simp] theorem exS_raise {M : Pm} {σ : Env} {h : LH} {c : _} {es : _} : exS M (S.raise c es) σ h = ((evs M σ es h).sr σ fun vs h1 => match M.P.exc c with
    | some fs => if fs.length = vs.length then .ex c (fs.zip vs) σ h1 else .bad
    | none => .bad) := rfl
@[simp] theorem exS_tryC {M : Pm} {σ : Env} {h : LH} {b : _} {hs : _} : exS M (S.tryC b hs) σ h = (match exSs M b σ h with
    | .ex c fs σ' h' => exHs M c fs hs σ' h'
    | r => r) := rfl
@[simp] theorem exSs_nil {M : Pm} {σ : Env} {h : LH} : exSs M Ss.nil σ h = (.nx σ h) := rfl
@[simp] theorem exSs_cons {M : Pm} {σ : Env} {h : LH} {s : _} {r : _} : exSs M (Ss.cons s r) σ h = ((exS M s σ h).next fun σ' h' => exSs M r σ' h') := rfl
@[simp] theorem exHs_nil {M : Pm} {σ : Env} {h : LH} {c : Nat} {fs : List (Nat × Val)} : exHs M c fs Hs.nil σ h = (.ex c fs σ h) := rfl
@[simp] theorem exHs_cons {M : Pm} {σ : Env} {h : LH} {c : Nat} {fs : List (Nat × Val)} {d : _} {i : _} {s : _} {r : _} : exHs M c fs (Hs.cons d i s r) σ h = (if M.P.sub c d = true then
      match exSs { M with xn := some (c, fs) } s σ h with
      | .nx σ2 h2 => .nx (match i with | some i => σ2.set i none | none => σ2) h2
      | .rt v h2 => .rt v h2
      | _ => .bad
    else exHs M c fs r σ h) := rfl
def SR.fin : SR → Res Val
  | .nx _ h => .ok .non h
  | .rt v h => .ok v h
  | .ex c fs _ h => .ex c fs h
  | _ => .bad
@[simp] theorem fin_nx {σ : Env} {h : LH} : (SR.nx σ h).fin = .ok .non h := rfl
@[simp] theorem fin_rt {v : Val} {h : LH} : (SR.rt v h).fin = .ok v h := rfl
@[simp] theorem fin_ex {c : Nat} {fs : List (Nat × Val)} {σ : Env} {h : LH} : (SR.ex c fs σ h).fin = .ex c fs h := rfl
theorem callN_go {P : Prog} {wf n f : Nat} {vs : List Val} {h : LH} {d : Def} (hd : P.fn f = some d) (hl : vs.length = d.np) :
    callN P wf (n + 1) f vs h = (exSs ⟨P, wf, callN P wf n, none⟩ d.body (vs.map some ++ List.replicate (d.ns - d.np) none) h).fin := by
  rw [callN]
  simp only [hd, hl, if_true]
  cases exSs ⟨P, wf, callN P wf n, none⟩ d.body (vs.map some ++ List.replicate (d.ns - d.np) none) h <;> rfl
@[simp] theorem atI0 {α : Type} {x : α} {xs : List α} : L2.atI (x :: xs) 0 = some x := L2.atI_nat (j := 0) rfl
@[simp] theorem atI1 {α : Type} {x y : α} {xs : List α} : L2.atI (x :: y :: xs) 1 = some y := L2.atI_nat (j := 1) rfl
@[simp] theorem pyOf_tup {h : LH} {xs : List Val} : pyOf h (.tup xs) = toPyV (.tup xs) := rfl
@[simp] theorem pyOf_lst {h : LH} {xs : List Val} : pyOf h (.lst xs) = toPyV (.lst xs) := rfl
section
variable {h : LH} {x y : Val} {i j : Int} {a b : Bool} {s t : Str} {xs ys : List Val}
@[simp] theorem truth_non : truth h .non = some false := rfl
@[simp] theorem truth_bl : truth h (.bl a) = some a := rfl
@[simp] theorem truth_int : truth h (.int i) = some (i != 0) := rfl
@[simp] theorem truth_tup : truth h (.tup xs) = some (!xs.isEmpty) := rfl
@[simp] theorem truth_lst : truth h (.lst xs) = some (!xs.isEmpty) := rfl
@[simp] theorem truth_rol : truth h (.rol xs) = some (!xs.isEmpty) := rfl
@[simp] theorem cmp_eq : cmpV h .eq x y = eqVal h x y := rfl
@[simp] theorem cmp_ne : cmpV h .ne x y = (eqVal h x y).map (!·) := rfl
@[simp] theorem cmp_in : cmpV h .inn x y = inVal h x y := rfl
@[simp] theorem cmp_nin : cmpV h .nin x y = (inVal h x y).map (!·) := rfl
@[simp] theorem cmp_is : cmpV h .is x .non = some (isNon x) := rfl
@[simp] theorem cmp_isnt : cmpV h .isnt x .non = some (!isNon x) := rfl
@[simp] theorem cmp_lt : cmpV h .lt (.int i) (.int j) = some (decide (i < j)) := rfl
@[simp] theorem cmp_le : cmpV h .le (.int i) (.int j) = some (decide (i ≤ j)) := rfl
@[simp] theorem cmp_gt : cmpV h .gt (.int i) (.int j) = some (decide (j < i)) := rfl
@[simp] theorem cmp_ge : cmpV h .ge (.int i) (.int j) = some (decide (j ≤ i)) := rfl
@[simp] theorem eq_str : eqVal h (.str s) (.str t) = some (decide (s = t)) := rfl
@[simp] theorem eq_int : eqVal h (.int i) (.int j) = some (decide (i = j)) := rfl
@[simp] theorem eq_bl : eqVal h (.bl a) (.bl b) = some (decide (a = b)) := rfl
@[simp] theorem eq_non_int : eqVal h .non (.int j) = some false := rfl
@[simp] theorem eq_int_non : eqVal h (.int j) .non = some false := rfl
@[simp] theorem eq_non : eqVal h .non .non = some true := rfl
@[simp] theorem eq_non_str : eqVal h .non (.str s) = some false := rfl
@[simp] theorem eq_str_non : eqVal h (.str s) .non = some false := rfl
@[simp] theorem eq_int_str : eqVal h (.int i) (.str s) = some false := rfl
@[simp] theorem eq_str_int : eqVal h (.str s) (.int i) = some false := rfl
@[simp] theorem ix_tup_ : ixVal h (.tup xs) (.int i) = L2.atI xs i := rfl
@[simp] theorem ix_lst_ : ixVal h (.lst xs) (.int i) = L2.atI xs i := rfl
@[simp] theorem ix_rol_ : ixVal h (.rol xs) (.int i) = L2.atI xs i := rfl
@[simp] theorem isNon_non : isNon .non = true := rfl
@[simp] theorem len_tup : biV h .len [.tup xs] = some (.int xs.length) := rfl
@[simp] theorem len_lst : biV h .len [.lst xs] = some (.int xs.length) := rfl
@[simp] theorem len_rol : biV h .len [.rol xs] = some (.int xs.length) := rfl
@[simp] theorem abs_int : biV h .abs [.int i] = some (.int (if i < 0 then -i else i)) := rfl
@[simp] theorem int_int : biV h .int [.int i] = some (.int i) := rfl
@[simp] theorem int_bl : biV h .int [.bl a] = some (.int (if a then 1 else 0)) := rfl
@[simp] theorem max2_int : biV h .max2 [.int i, .int j] = some (.int (if j > i then j else i)) := rfl
@[simp] theorem min2_int : biV h .min2 [.int i, .int j] = some (.int (if j < i then j else i)) := rfl
@[simp] theorem add_int : opV h .add (.int i) (.int j) = some (.int (i + j)) := rfl
@[simp] theorem sub_int : opV h .sub (.int i) (.int j) = some (.int (i - j)) := rfl
@[simp] theorem mul_int : opV h .mul (.int i) (.int j) = if (-(2 ^ 64) < i ∧ i < 2 ^ 64) ∨ (-(2 ^ 64) < j ∧ j < 2 ^ 64) then some (.int (i * j)) else none := rfl
@[simp] theorem fdiv_int : opV h .fdiv (.int i) (.int j) = if 0 < j ∧ j < 1073741824 then some (.int (i / j)) else none := rfl
@[simp] theorem mod_int : opV h .mod (.int i) (.int j) = if 0 < j then some (.int (i % j)) else none := rfl
@[simp] theorem add_tup : opV h .add (.tup xs) (.tup ys) = if xs.length + ys.length ≤ sizeLine then some (.tup (xs ++ ys)) else none := rfl
@[simp] theorem rev_tup : revV h (.tup xs) = some (.tup xs.reverse) := rfl
@[simp] theorem sl_tup_ {l u : Option Int} : slV h (.tup xs) l u = some (.tup (cutL xs l u)) := rfl
@[simp] theorem seq_tup : seqOf h (.tup xs) = some xs := rfl
@[simp] theorem seq_lst : seqOf h (.lst xs) = some xs := rfl
@[simp] theorem seq_rol : seqOf h (.rol xs) = some xs := rfl
@[simp] theorem asg_v {e : Env} {k : Nat} : assignT (.v k) x h e = some (e.set k (some x)) := rfl
@[simp] theorem src_tup_ : srcOf (.tup xs) h = some (.fix xs) := rfl
@[simp] theorem src_lst_ : srcOf (.lst xs) h = some (.fix xs) := rfl
@[simp] theorem src_rol_ : srcOf (.rol xs) h = some (.fix xs) := rfl
@[simp] theorem slen_fix : (Src.one (.fix xs)).len h = some xs.length := rfl
end
@[simp] theorem szl {n : Nat} (hn : n < 64) : n ≤ sizeLine := L2.small64 hn
@[simp] theorem flat_non : flat .non = true := rfl
@[simp] theorem flat_bl {a : Bool} : flat (.bl a) = true := rfl
@[simp] theorem flat_int {a : Int} : flat (.int a) = true := rfl
@[simp] theorem flat_str {a : Str} : flat (.str a) = true := rfl
@[simp] theorem flatEq_str {a b : Str} : flatEq (.str a) (.str b) = (a == b) := rfl
@[simp] theorem flatEq_int {a b : Int} : flatEq (.int a) (.int b) = (a == b) := rfl
@[simp] theorem in_tup_flat {h : LH} {x : Val} {ys : List Val} (hx : flat x = true) (hy : ys.all flat = true) : inVal h x (.tup ys) = some (ys.any fun y => flatEq y x) := by
  simp only [inVal, seqOf, hx, hy]
  rfl
/-- a loop over what is fixed -/
theorem for_nil {body : Env → LH → SR} {tg : Tg} {xs : List Val} {k i : Nat} {σ : Env} {h : LH} (hi : xs.length ≤ i) : forN body tg (.one (.fix xs)) k i σ h = .nx σ h := by
  unfold forN
  simp [Src.next, Src1.list, List.getElem?_eq_none hi]
theorem for_inv {body : Env → LH → SR} {tg : Tg} {xs : List Val} (I : Nat → Env → LH → Prop) (step : ∀ (i : Nat) (x : Val) (σ : Env) (h : LH), xs[i]? = some x → I i σ h → ∃ σ1 σ2 h2, assignT tg x h σ = some σ1 ∧ body σ1 h = .nx σ2 h2 ∧ I (i + 1) σ2 h2) :
    ∀ (k i : Nat) (σ : Env) (h : LH), xs.length ≤ k + i → i ≤ xs.length → I i σ h → ∃ σ' h', forN body tg (.one (.fix xs)) k i σ h = .nx σ' h' ∧ I xs.length σ' h'
  | 0, i, σ, h, h1, h2, hi => by
    obtain rfl : i = xs.length := by omega
    exact ⟨σ, h, for_nil (Nat.le_refl _), hi⟩
  | k + 1, i, σ, h, h1, h2, hi => by
    by_cases l : i < xs.length
    · have e : xs[i]? = some xs[i] := List.getElem?_eq_getElem l
      obtain ⟨σ1, σ2, h3, a1, a2, a3⟩ := step i xs[i] σ h e hi
      obtain ⟨σ', h', b1, b2⟩ := for_inv I step k (i + 1) σ2 h3 (by omega) (by omega) a3
      refine ⟨σ', h', ?_, b2⟩
      rw [forN]
      simp only [Src.next, Src1.list, Option.map_some, e, a1, a2]
      exact b1
    · obtain rfl : i = xs.length := by omega
      exact ⟨σ, h, for_nil (Nat.le_refl _), hi⟩
@[simp] theorem rngL_len {lo : Int} {n : Nat} : (rngL lo n).length = n := by simp [rngL]
theorem rngL_at {lo : Int} {n i : Nat} {x : Val} (h : (rngL lo n)[i]? = some x) : i < n ∧ x = .int (lo + i) := by
  unfold rngL at h
  rw [List.getElem?_map] at h
  by_cases l : i < n
  · rw [List.getElem?_range l] at h
    cases h
    exact ⟨l, rfl⟩
  · rw [List.getElem?_eq_none (by simpa using l)] at h
    cases h
end G

set_option maxHeartbeats 0
namespace LW
open G PySem PySem.Spec PyProof.Rows L2
def clsBody (s : Stmt) : List Stmt := match s with
  | .ClassDef _ _ _ b _ _ _ _ _ _ _ => b
  | _ => []
def top (i : Nat) : Stmt := PySem.Challenge.pw_gleanhold_k21_answers_are_told.main.body.getD i (.Pass ⟨0, 0, 0, 0⟩)
def cb (i j : Nat) : Stmt := (clsBody (top i)).getD j (.Pass ⟨0, 0, 0, 0⟩)
/-- is_integer(value): 0=value -/
def D0 : DD := ⟨(st [105, 115, 95, 105, 110, 116, 101, 103, 101, 114]), (st [105, 115, 95, 105, 110, 116, 101, 103, 101, 114]), defArgs (top 1), defBody (top 1), defScope (top 1), [(st [118, 97, 108, 117, 101])], [(st [118, 97, 108, 117, 101])], []⟩
/-- is_part(kind, value, roots, registers): 0=kind 1=value 2=roots 3=registers -/
def D1 : DD := ⟨(st [105, 115, 95, 112, 97, 114, 116]), (st [105, 115, 95, 112, 97, 114, 116]), defArgs (top 5), defBody (top 5), defScope (top 5), [(st [107, 105, 110, 100]), (st [118, 97, 108, 117, 101]), (st [114, 111, 111, 116, 115]), (st [114, 101, 103, 105, 115, 116, 101, 114, 115])], [(st [107, 105, 110, 100]), (st [118, 97, 108, 117, 101]), (st [114, 111, 111, 116, 115]), (st [114, 101, 103, 105, 115, 116, 101, 114, 115])], []⟩
/-- is_answer(value): 0=value -/
def D2 : DD := ⟨(st [105, 115, 95, 97, 110, 115, 119, 101, 114]), (st [105, 115, 95, 97, 110, 115, 119, 101, 114]), defArgs (top 6), defBody (top 6), defScope (top 6), [(st [118, 97, 108, 117, 101])], [(st [118, 97, 108, 117, 101])], []⟩
/-- _law_cell(script, k): 0=script 1=k -/
def D3 : DD := ⟨(st [95, 108, 97, 119, 95, 99, 101, 108, 108]), (st [95, 108, 97, 119, 95, 99, 101, 108, 108]), defArgs (top 8), defBody (top 8), defScope (top 8), [(st [115, 99, 114, 105, 112, 116]), (st [107])], [(st [115, 99, 114, 105, 112, 116]), (st [107])], []⟩
/-- _law_stream(cell): 0=cell -/
def D4 : DD := ⟨(st [95, 108, 97, 119, 95, 115, 116, 114, 101, 97, 109]), (st [95, 108, 97, 119, 95, 115, 116, 114, 101, 97, 109]), defArgs (top 9), defBody (top 9), defScope (top 9), [(st [99, 101, 108, 108])], [(st [99, 101, 108, 108])], [(36, 15, 24), (37, 11, 20)]⟩
/-- _law_take(stream, many): 0=stream 1=many 2=worth -/
def D5 : DD := ⟨(st [95, 108, 97, 119, 95, 116, 97, 107, 101]), (st [95, 108, 97, 119, 95, 116, 97, 107, 101]), defArgs (top 10), defBody (top 10), defScope (top 10), [(st [115, 116, 114, 101, 97, 109]), (st [109, 97, 110, 121]), (st [119, 111, 114, 116, 104])], [(st [115, 116, 114, 101, 97, 109]), (st [109, 97, 110, 121])], []⟩
/-- _law_says(actual, expected): 0=actual 1=expected -/
def D6 : DD := ⟨(st [95, 108, 97, 119, 95, 115, 97, 121, 115]), (st [95, 108, 97, 119, 95, 115, 97, 121, 115]), defArgs (top 11), defBody (top 11), defScope (top 11), [(st [97, 99, 116, 117, 97, 108]), (st [101, 120, 112, 101, 99, 116, 101, 100])], [(st [97, 99, 116, 117, 97, 108]), (st [101, 120, 112, 101, 99, 116, 101, 100])], []⟩
/-- _law_is_integer(value, low, high): 0=value 1=low 2=high -/
def D7 : DD := ⟨(st [95, 108, 97, 119, 95, 105, 115, 95, 105, 110, 116, 101, 103, 101, 114]), (st [95, 108, 97, 119, 95, 105, 115, 95, 105, 110, 116, 101, 103, 101, 114]), defArgs (top 12), defBody (top 12), defScope (top 12), [(st [118, 97, 108, 117, 101]), (st [108, 111, 119]), (st [104, 105, 103, 104])], [(st [118, 97, 108, 117, 101]), (st [108, 111, 119]), (st [104, 105, 103, 104])], []⟩
/-- _law_part_right(kind, value, sizes): 0=kind 1=value 2=sizes -/
def D8 : DD := ⟨(st [95, 108, 97, 119, 95, 112, 97, 114, 116, 95, 114, 105, 103, 104, 116]), (st [95, 108, 97, 119, 95, 112, 97, 114, 116, 95, 114, 105, 103, 104, 116]), defArgs (top 13), defBody (top 13), defScope (top 13), [(st [107, 105, 110, 100]), (st [118, 97, 108, 117, 101]), (st [115, 105, 122, 101, 115])], [(st [107, 105, 110, 100]), (st [118, 97, 108, 117, 101]), (st [115, 105, 122, 101, 115])], []⟩
/-- _law_is_operation(value, sizes): 0=value 1=sizes 2=form 3=k -/
def D9 : DD := ⟨(st [95, 108, 97, 119, 95, 105, 115, 95, 111, 112, 101, 114, 97, 116, 105, 111, 110]), (st [95, 108, 97, 119, 95, 105, 115, 95, 111, 112, 101, 114, 97, 116, 105, 111, 110]), defArgs (top 14), defBody (top 14), defScope (top 14), [(st [118, 97, 108, 117, 101]), (st [115, 105, 122, 101, 115]), (st [102, 111, 114, 109]), (st [107])], [(st [118, 97, 108, 117, 101]), (st [115, 105, 122, 101, 115])], []⟩
/-- _law_spoilt(stream, value, sizes): 0=stream 1=value 2=sizes 3=odd 4=k -/
def D10 : DD := ⟨(st [95, 108, 97, 119, 95, 115, 112, 111, 105, 108, 116]), (st [95, 108, 97, 119, 95, 115, 112, 111, 105, 108, 116]), defArgs (top 15), defBody (top 15), defScope (top 15), [(st [115, 116, 114, 101, 97, 109]), (st [118, 97, 108, 117, 101]), (st [115, 105, 122, 101, 115]), (st [111, 100, 100]), (st [107])], [(st [115, 116, 114, 101, 97, 109]), (st [118, 97, 108, 117, 101]), (st [115, 105, 122, 101, 115])], []⟩
/-- _law_form(word): 0=word -/
def D11 : DD := ⟨(st [95, 108, 97, 119, 95, 102, 111, 114, 109]), (st [95, 108, 97, 119, 95, 102, 111, 114, 109]), defArgs (top 16), defBody (top 16), defScope (top 16), [(st [119, 111, 114, 100])], [(st [119, 111, 114, 100])], []⟩
/-- _law_answer(stream): 0=stream 1=number 2=flag 3=menu -/
def D12 : DD := ⟨(st [95, 108, 97, 119, 95, 97, 110, 115, 119, 101, 114]), (st [95, 108, 97, 119, 95, 97, 110, 115, 119, 101, 114]), defArgs (top 17), defBody (top 17), defScope (top 17), [(st [115, 116, 114, 101, 97, 109]), (st [110, 117, 109, 98, 101, 114]), (st [102, 108, 97, 103]), (st [109, 101, 110, 117])], [(st [115, 116, 114, 101, 97, 109])], []⟩
/-- _law_is_answer(value): 0=value -/
def D13 : DD := ⟨(st [95, 108, 97, 119, 95, 105, 115, 95, 97, 110, 115, 119, 101, 114]), (st [95, 108, 97, 119, 95, 105, 115, 95, 97, 110, 115, 119, 101, 114]), defArgs (top 18), defBody (top 18), defScope (top 18), [(st [118, 97, 108, 117, 101])], [(st [118, 97, 108, 117, 101])], []⟩
/-- law(script): 0=script 1=k 2=stream 3=turn 4=answer 5=value -/
def D14 : DD := ⟨(st [108, 97, 119]), (st [108, 97, 119]), defArgs (top 19), defBody (top 19), defScope (top 19), [(st [115, 99, 114, 105, 112, 116]), (st [107]), (st [115, 116, 114, 101, 97, 109]), (st [116, 117, 114, 110]), (st [97, 110, 115, 119, 101, 114]), (st [118, 97, 108, 117, 101])], [(st [115, 99, 114, 105, 112, 116])], []⟩
def d0 : Def := ⟨1, 1, (.cons (.ret (.and (.isi (.v 0) .int) (.not (.isi (.v 0) .bool)))) .nil)⟩
def d1 : Def := ⟨4, 4, (.cons (.ite (.not (.call 0 (.cons (.v 1) .nil))) (.cons (.ret (.c (.bl false))) .nil) .nil) (.cons (.ite (.cmp .eq (.v 0) (.c (.str (st [110])))) (.cons (.ret (.cmp .lt (.bi .abs (.cons (.v 1) .nil)) (.g 1))) .nil) .nil) (.cons (.ite (.cmp .eq (.v 0) (.c (.str (st [115])))) (.cons (.ret (.and (.cmp .le (.c (.int 1)) (.v 1)) (.cmp .le (.v 1) (.g 0)))) .nil) .nil) (.cons (.ite (.cmp .eq (.v 0) (.c (.str (st [107])))) (.cons (.ret (.and (.cmp .le (.c (.int 0)) (.v 1)) (.cmp .le (.v 1) (.g 0)))) .nil) .nil) (.cons (.ret (.and (.cmp .le (.c (.int 0)) (.v 1)) (.cmp .lt (.v 1) (.ite (.cmp .eq (.v 0) (.c (.str (st [105])))) (.v 2) (.v 3))))) .nil)))))⟩
def d2 : Def := ⟨1, 1, (.cons (.ite (.or (.not (.isi (.v 0) .tup)) (.or (.cmp .eq (.v 0) (.tup .nil)) (.not (.isi (.ix (.v 0) (.c (.int 0))) .str)))) (.cons (.ret (.c (.bl false))) .nil) .nil) (.cons (.ite (.cmp .eq (.bi .len (.cons (.v 0) .nil)) (.c (.int 1))) (.cons (.ret (.cmp .inn (.ix (.v 0) (.c (.int 0))) (.tup (.cons (.c (.str (st [110, 111, 110, 101]))) (.cons (.c (.str (st [114, 97, 110, 103, 101]))) (.cons (.c (.str (st [102, 117, 108, 108]))) (.cons (.c (.str (st [111, 107]))) .nil))))))) .nil) .nil) (.cons (.ite (.cmp .ne (.bi .len (.cons (.v 0) .nil)) (.c (.int 2))) (.cons (.ret (.c (.bl false))) .nil) .nil) (.cons (.ite (.cmp .eq (.ix (.v 0) (.c (.int 0))) (.c (.str (st [118, 97, 108, 117, 101])))) (.cons (.ret (.or (.cmp .is (.ix (.v 0) (.c (.int 1))) (.c .non)) (.call 1 (.cons (.c (.str (st [110]))) (.cons (.ix (.v 0) (.c (.int 1))) (.cons (.c (.int 0)) (.cons (.c (.int 0)) .nil))))))) .nil) .nil) (.cons (.ite (.cmp .eq (.ix (.v 0) (.c (.int 0))) (.c (.str (st [115, 97, 109, 101])))) (.cons (.ret (.isi (.ix (.v 0) (.c (.int 1))) .bool)) .nil) .nil) (.cons (.ret (.and (.cmp .eq (.ix (.v 0) (.c (.int 0))) (.c (.str (st [115, 105, 122, 101])))) (.call 1 (.cons (.c (.str (st [115]))) (.cons (.ix (.v 0) (.c (.int 1))) (.cons (.c (.int 0)) (.cons (.c (.int 0)) .nil))))))) .nil))))))⟩
def d3 : Def := ⟨2, 2, (.cons (.ite (.cmp .lt (.v 1) (.bi .len (.cons (.v 0) .nil))) (.cons (.ret (.ix (.v 0) (.v 1))) .nil) .nil) (.cons (.ret (.c (.int 0))) .nil))⟩
def d4 : Def := ⟨1, 1, (.cons (.ite (.cmp .ge (.v 0) (.bin .pow (.c (.int 10)) (.c (.int 18)))) (.cons (.ret (.bx (.disp (.cons (.v 0) (.cons (.c (.int 1)) .nil))))) .nil) .nil) (.cons (.ret (.bx (.disp (.cons (.c (.int 0)) (.cons (.v 0) .nil))))) .nil))⟩
def d5 : Def := ⟨2, 3, (.cons (.ite (.cmp .gt (.ix (.v 0) (.c (.int 0))) (.c (.int 0))) (.cons (.set (.v 2) (.bin .mod (.bi .int (.cons (.ix (.v 0) (.c (.int 0))) .nil)) (.v 1))) (.cons (.sub (.v 0) (.c (.int 0)) (.bin .fdiv (.ix (.v 0) (.c (.int 0))) (.v 1))) (.cons (.ret (.v 2)) .nil))) .nil) (.cons (.sub (.v 0) (.c (.int 1)) (.bin .mod (.bi .int (.cons (.bin .add (.bin .mul (.ix (.v 0) (.c (.int 1))) (.c (.int 48271))) (.c (.int 69621))) .nil)) (.c (.int 2147483647)))) (.cons (.ret (.bin .mod (.bi .int (.cons (.bin .add (.bin .fdiv (.bin .mul (.ix (.v 0) (.c (.int 1))) (.ix (.v 0) (.c (.int 1)))) (.c (.int 1009))) (.bin .fdiv (.ix (.v 0) (.c (.int 1))) (.c (.int 7)))) .nil)) (.v 1))) .nil)))⟩
def d6 : Def := ⟨2, 2, (.cons (.ret (.and (.isi (.v 0) .bool) (.cmp .eq (.v 0) (.v 1)))) .nil)⟩
def d7 : Def := ⟨3, 3, (.cons (.ret (.and (.isi (.v 0) .int) (.and (.not (.isi (.v 0) .bool)) (.and (.cmp .le (.v 1) (.v 0)) (.cmp .le (.v 0) (.v 2)))))) .nil)⟩
def d8 : Def := ⟨3, 3, (.cons (.ite (.cmp .eq (.v 0) (.c (.str (st [105])))) (.cons (.ret (.call 7 (.cons (.v 1) (.cons (.c (.int 0)) (.cons (.bin .sub (.ix (.v 2) (.c (.int 0))) (.c (.int 1))) .nil))))) .nil) .nil) (.cons (.ite (.cmp .eq (.v 0) (.c (.str (st [114])))) (.cons (.ret (.call 7 (.cons (.v 1) (.cons (.c (.int 0)) (.cons (.bin .sub (.ix (.v 2) (.c (.int 1))) (.c (.int 1))) .nil))))) .nil) .nil) (.cons (.ite (.cmp .eq (.v 0) (.c (.str (st [115])))) (.cons (.ret (.call 7 (.cons (.v 1) (.cons (.c (.int 1)) (.cons (.bin .pow (.c (.int 10)) (.c (.int 9))) .nil))))) .nil) .nil) (.cons (.ite (.cmp .eq (.v 0) (.c (.str (st [107])))) (.cons (.ret (.call 7 (.cons (.v 1) (.cons (.c (.int 0)) (.cons (.bin .pow (.c (.int 10)) (.c (.int 9))) .nil))))) .nil) .nil) (.cons (.ret (.call 7 (.cons (.v 1) (.cons (.bin .sub (.c (.int 1)) (.bin .pow (.c (.int 10)) (.c (.int 18)))) (.cons (.bin .sub (.bin .pow (.c (.int 10)) (.c (.int 18))) (.c (.int 1))) .nil))))) .nil)))))⟩
def d9 : Def := ⟨2, 4, (.cons (.ite (.or (.not (.isi (.v 0) .tup)) (.or (.cmp .lt (.bi .len (.cons (.v 0) .nil)) (.c (.int 1))) (.not (.isi (.ix (.v 0) (.c (.int 0))) .str)))) (.cons (.ret (.c (.bl false))) .nil) .nil) (.cons (.set (.v 2) (.call 11 (.cons (.ix (.v 0) (.c (.int 0))) .nil))) (.cons (.ite (.or (.cmp .is (.v 2) (.c .non)) (.cmp .ne (.bi .len (.cons (.v 0) .nil)) (.bin .add (.bi .len (.cons (.v 2) .nil)) (.c (.int 1))))) (.cons (.ret (.c (.bl false))) .nil) .nil) (.cons (.for (.v 3) (.rng (.bi .len (.cons (.v 2) .nil))) (.cons (.ite (.not (.call 8 (.cons (.ix (.v 2) (.v 3)) (.cons (.ix (.v 0) (.bin .add (.c (.int 1)) (.v 3))) (.cons (.v 1) .nil))))) (.cons (.ret (.c (.bl false))) .nil) .nil) .nil)) (.cons (.ret (.c (.bl true))) .nil)))))⟩
def d10 : Def := ⟨3, 5, (.cons (.set (.v 3) (.fr (.disp (.cons (.c .non) (.cons (.c (.bl true)) (.cons (.neg (.c (.int 1))) (.cons (.c (.int 0)) (.cons (.c (.int 1)) (.cons (.ix (.v 2) (.c (.int 0))) (.cons (.ix (.v 2) (.c (.int 1))) (.cons (.bin .pow (.c (.int 10)) (.c (.int 9))) (.cons (.bin .add (.bin .pow (.c (.int 10)) (.c (.int 9))) (.c (.int 1))) (.cons (.bin .pow (.c (.int 10)) (.c (.int 18))) (.cons (.bin .sub (.bin .pow (.c (.int 10)) (.c (.int 18))) (.c (.int 1))) (.cons (.neg (.bin .pow (.c (.int 10)) (.c (.int 18)))) (.cons (.c (.str (st [112, 117, 116]))) (.cons (.c (.str (st [100, 114, 111, 112]))) (.cons (.tup .nil) (.cons (.fr (.disp (.cons (.c (.int 0)) .nil))) .nil))))))))))))))))))) (.cons (.ite (.and (.isi (.v 1) .tup) (.and (.cmp .ne (.v 1) (.tup .nil)) (.cmp .gt (.call 5 (.cons (.v 0) (.cons (.c (.int 5)) .nil))) (.c (.int 0))))) (.cons (.set (.v 4) (.call 5 (.cons (.v 0) (.cons (.bi .len (.cons (.v 1) .nil)) .nil)))) (.cons (.ret (.bin .add (.bin .add (.sl (.v 1) .none (.some (.v 4))) (.tup (.cons (.call 10 (.cons (.v 0) (.cons (.ix (.v 1) (.v 4)) (.cons (.v 2) .nil)))) .nil))) (.sl (.v 1) (.some (.bin .add (.v 4) (.c (.int 1)))) .none))) .nil)) .nil) (.cons (.ite (.and (.isi (.v 1) .tup) (.cmp .eq (.call 5 (.cons (.v 0) (.cons (.c (.int 2)) .nil))) (.c (.int 0)))) (.cons (.ret (.ix (.fr (.disp (.cons (.sl (.v 1) .none (.some (.neg (.c (.int 1))))) (.cons (.bin .add (.v 1) (.tup (.cons (.c (.int 0)) .nil))) (.cons (.fr (.list (.v 1))) (.cons (.rev (.v 1)) (.cons (.tup (.cons (.v 1) .nil)) (.cons (.bin .add (.v 1) (.sl (.v 1) (.some (.c (.int 1))) .none)) .nil)))))))) (.call 5 (.cons (.v 0) (.cons (.c (.int 6)) .nil))))) .nil) .nil) (.cons (.ret (.ix (.v 3) (.call 5 (.cons (.v 0) (.cons (.c (.int 16)) .nil))))) .nil))))⟩
def d11 : Def := ⟨1, 1, (.cons (.ret (.c .non)) .nil)⟩
def d12 : Def := ⟨1, 4, (.cons (.set (.v 1) (.ix (.fr (.disp (.cons (.c (.int 0)) (.cons (.c (.int 1)) (.cons (.bin .pow (.c (.int 10)) (.c (.int 9))) (.cons (.bin .add (.bin .pow (.c (.int 10)) (.c (.int 9))) (.c (.int 1))) (.cons (.bin .sub (.bin .pow (.c (.int 10)) (.c (.int 18))) (.c (.int 1))) (.cons (.bin .pow (.c (.int 10)) (.c (.int 18))) (.cons (.bin .sub (.c (.int 1)) (.bin .pow (.c (.int 10)) (.c (.int 18)))) (.cons (.bin .sub (.c (.int 0)) (.call 5 (.cons (.v 0) (.cons (.c (.int 99)) .nil)))) (.cons (.c .non) .nil))))))))))) (.call 5 (.cons (.v 0) (.cons (.c (.int 9)) .nil))))) (.cons (.set (.v 2) (.cmp .eq (.call 5 (.cons (.v 0) (.cons (.c (.int 2)) .nil))) (.c (.int 0)))) (.cons (.set (.v 3) (.fr (.disp (.cons (.tup (.cons (.c (.str (st [110, 111, 110, 101]))) .nil)) (.cons (.tup (.cons (.c (.str (st [114, 97, 110, 103, 101]))) .nil)) (.cons (.tup (.cons (.c (.str (st [102, 117, 108, 108]))) .nil)) (.cons (.tup (.cons (.c (.str (st [111, 107]))) .nil)) (.cons (.tup (.cons (.c (.str (st [118, 97, 108, 117, 101]))) (.cons (.v 1) .nil))) (.cons (.tup (.cons (.c (.str (st [115, 97, 109, 101]))) (.cons (.v 2) .nil))) (.cons (.tup (.cons (.c (.str (st [115, 105, 122, 101]))) (.cons (.v 1) .nil))) (.cons (.tup (.cons (.c (.str (st [118, 97, 108, 117, 101]))) (.cons (.c .non) .nil))) .nil))))))))))) (.cons (.ret (.ix (.v 3) (.call 5 (.cons (.v 0) (.cons (.c (.int 8)) .nil))))) .nil))))⟩
def d13 : Def := ⟨1, 1, (.cons (.ite (.cmp .inn (.v 0) (.fr (.disp (.cons (.tup (.cons (.c (.str (st [110, 111, 110, 101]))) .nil)) (.cons (.tup (.cons (.c (.str (st [114, 97, 110, 103, 101]))) .nil)) (.cons (.tup (.cons (.c (.str (st [102, 117, 108, 108]))) .nil)) (.cons (.tup (.cons (.c (.str (st [111, 107]))) .nil)) .nil))))))) (.cons (.ret (.isi (.v 0) .tup)) .nil) .nil) (.cons (.ite (.or (.not (.isi (.v 0) .tup)) (.or (.cmp .ne (.bi .len (.cons (.v 0) .nil)) (.c (.int 2))) (.not (.isi (.ix (.v 0) (.c (.int 0))) .str)))) (.cons (.ret (.c (.bl false))) .nil) .nil) (.cons (.ite (.cmp .eq (.ix (.v 0) (.c (.int 0))) (.c (.str (st [118, 97, 108, 117, 101])))) (.cons (.ret (.or (.cmp .is (.ix (.v 0) (.c (.int 1))) (.c .non)) (.call 8 (.cons (.c (.str (st [110]))) (.cons (.ix (.v 0) (.c (.int 1))) (.cons (.fr (.disp (.cons (.c (.int 0)) (.cons (.c (.int 0)) .nil)))) .nil)))))) .nil) .nil) (.cons (.ite (.cmp .eq (.ix (.v 0) (.c (.int 0))) (.c (.str (st [115, 97, 109, 101])))) (.cons (.ret (.isi (.ix (.v 0) (.c (.int 1))) .bool)) .nil) .nil) (.cons (.ret (.and (.cmp .eq (.ix (.v 0) (.c (.int 0))) (.c (.str (st [115, 105, 122, 101])))) (.call 8 (.cons (.c (.str (st [115]))) (.cons (.ix (.v 0) (.c (.int 1))) (.cons (.fr (.disp (.cons (.c (.int 0)) (.cons (.c (.int 0)) .nil)))) .nil)))))) .nil)))))⟩
def d14 : Def := ⟨1, 6, (.cons (.for (.v 1) (.rng (.bi .max2 (.cons (.c (.int 1)) (.cons (.bi .min2 (.cons (.c (.int 12)) (.cons (.bi .len (.cons (.v 0) .nil)) .nil))) .nil)))) (.cons (.set (.v 2) (.call 4 (.cons (.call 3 (.cons (.v 0) (.cons (.v 1) .nil))) .nil))) (.cons (.for (.v 3) (.rng (.c (.int 6))) (.cons (.set (.v 4) (.call 12 (.cons (.v 2) .nil))) (.cons (.for (.v 5) (.val (.fr (.disp (.cons (.v 4) (.cons (.call 10 (.cons (.v 2) (.cons (.v 4) (.cons (.fr (.disp (.cons (.c (.int 2)) (.cons (.c (.int 3)) .nil)))) .nil)))) (.cons (.fr (.list (.v 4))) (.cons (.tup (.cons (.c (.str (st [118, 97, 108, 117, 101]))) (.cons (.c (.bl true)) .nil))) (.cons (.tup (.cons (.c (.str (st [115, 97, 109, 101]))) (.cons (.c (.int 1)) .nil))) (.cons (.tup (.cons (.c (.str (st [102, 117, 108, 108]))) (.cons (.c .non) .nil))) .nil))))))))) (.cons (.ite (.not (.call 6 (.cons (.call 2 (.cons (.v 5) .nil)) (.cons (.call 13 (.cons (.v 5) .nil)) .nil)))) (.cons (.ret (.c (.bl false))) .nil) .nil) .nil)) .nil))) .nil))) (.cons (.ret (.c (.bl true))) .nil))⟩
def tb : TB := {
  fns := [(0, ⟨((st [105, 115, 95, 105, 110, 116, 101, 103, 101, 114]), none), D0, d0⟩),
    (1, ⟨((st [105, 115, 95, 112, 97, 114, 116]), none), D1, d1⟩),
    (2, ⟨((st [105, 115, 95, 97, 110, 115, 119, 101, 114]), none), D2, d2⟩),
    (3, ⟨((st [95, 108, 97, 119, 95, 99, 101, 108, 108]), none), D3, d3⟩),
    (4, ⟨((st [95, 108, 97, 119, 95, 115, 116, 114, 101, 97, 109]), none), D4, d4⟩),
    (5, ⟨((st [95, 108, 97, 119, 95, 116, 97, 107, 101]), none), D5, d5⟩),
    (6, ⟨((st [95, 108, 97, 119, 95, 115, 97, 121, 115]), none), D6, d6⟩),
    (7, ⟨((st [95, 108, 97, 119, 95, 105, 115, 95, 105, 110, 116, 101, 103, 101, 114]), none), D7, d7⟩),
    (8, ⟨((st [95, 108, 97, 119, 95, 112, 97, 114, 116, 95, 114, 105, 103, 104, 116]), none), D8, d8⟩),
    (9, ⟨((st [95, 108, 97, 119, 95, 105, 115, 95, 111, 112, 101, 114, 97, 116, 105, 111, 110]), none), D9, d9⟩),
    (10, ⟨((st [95, 108, 97, 119, 95, 115, 112, 111, 105, 108, 116]), none), D10, d10⟩),
    (11, ⟨((st [95, 108, 97, 119, 95, 102, 111, 114, 109]), none), D11, d11⟩),
    (12, ⟨((st [95, 108, 97, 119, 95, 97, 110, 115, 119, 101, 114]), none), D12, d12⟩),
    (13, ⟨((st [95, 108, 97, 119, 95, 105, 115, 95, 97, 110, 115, 119, 101, 114]), none), D13, d13⟩),
    (14, ⟨((st [108, 97, 119]), none), D14, d14⟩)]
  cls := []
  cons := [(0, (st [77, 79, 83, 84, 95, 73, 78, 68, 69, 88]), (.int (1000000000))), (1, (st [76, 73, 77, 73, 84]), (.int (1000000000000000000)))]
  nms := []
  blts := [(st [105, 115, 105, 110, 115, 116, 97, 110, 99, 101]), (st [105, 110, 116]), (st [98, 111, 111, 108]), (st [97, 98, 115]), (st [108, 101, 110]), (st [116, 117, 112, 108, 101]), (st [115, 116, 114]), (st [114, 97, 110, 103, 101]), (st [108, 105, 115, 116]), (st [109, 97, 120]), (st [109, 105, 110])] }
theorem ok0 : DOk tb.gl tb.fl D0 d0 := ⟨⟨by kernel_rfl, by kernel_rfl, by kernel_rfl, by decide +kernel, by decide +kernel, by decide +kernel, by decide +kernel⟩, rfl, rfl, ⟨by kernel_rfl, by kernel_rfl, by kernel_rfl, by kernel_rfl, by kernel_rfl⟩, by decide +kernel, 200, by kernel_rfl⟩
theorem ok1 : DOk tb.gl tb.fl D1 d1 := ⟨⟨by kernel_rfl, by kernel_rfl, by kernel_rfl, by decide +kernel, by decide +kernel, by decide +kernel, by decide +kernel⟩, rfl, rfl, ⟨by kernel_rfl, by kernel_rfl, by kernel_rfl, by kernel_rfl, by kernel_rfl⟩, by decide +kernel, 200, by kernel_rfl⟩
theorem ok2 : DOk tb.gl tb.fl D2 d2 := ⟨⟨by kernel_rfl, by kernel_rfl, by kernel_rfl, by decide +kernel, by decide +kernel, by decide +kernel, by decide +kernel⟩, rfl, rfl, ⟨by kernel_rfl, by kernel_rfl, by kernel_rfl, by kernel_rfl, by kernel_rfl⟩, by decide +kernel, 200, by kernel_rfl⟩
theorem ok3 : DOk tb.gl tb.fl D3 d3 := ⟨⟨by kernel_rfl, by kernel_rfl, by kernel_rfl, by decide +kernel, by decide +kernel, by decide +kernel, by decide +kernel⟩, rfl, rfl, ⟨by kernel_rfl, by kernel_rfl, by kernel_rfl, by kernel_rfl, by kernel_rfl⟩, by decide +kernel, 200, by kernel_rfl⟩
theorem ok4 : DOk tb.gl tb.fl D4 d4 := ⟨⟨by kernel_rfl, by kernel_rfl, by kernel_rfl, by decide +kernel, by decide +kernel, by decide +kernel, by decide +kernel⟩, rfl, rfl, ⟨by kernel_rfl, by kernel_rfl, by kernel_rfl, by kernel_rfl, by kernel_rfl⟩, by decide +kernel, 200, by kernel_rfl⟩
theorem ok5 : DOk tb.gl tb.fl D5 d5 := ⟨⟨by kernel_rfl, by kernel_rfl, by kernel_rfl, by decide +kernel, by decide +kernel, by decide +kernel, by decide +kernel⟩, rfl, rfl, ⟨by kernel_rfl, by kernel_rfl, by kernel_rfl, by kernel_rfl, by kernel_rfl⟩, by decide +kernel, 200, by kernel_rfl⟩
theorem ok6 : DOk tb.gl tb.fl D6 d6 := ⟨⟨by kernel_rfl, by kernel_rfl, by kernel_rfl, by decide +kernel, by decide +kernel, by decide +kernel, by decide +kernel⟩, rfl, rfl, ⟨by kernel_rfl, by kernel_rfl, by kernel_rfl, by kernel_rfl, by kernel_rfl⟩, by decide +kernel, 200, by kernel_rfl⟩
theorem ok7 : DOk tb.gl tb.fl D7 d7 := ⟨⟨by kernel_rfl, by kernel_rfl, by kernel_rfl, by decide +kernel, by decide +kernel, by decide +kernel, by decide +kernel⟩, rfl, rfl, ⟨by kernel_rfl, by kernel_rfl, by kernel_rfl, by kernel_rfl, by kernel_rfl⟩, by decide +kernel, 200, by kernel_rfl⟩
theorem ok8 : DOk tb.gl tb.fl D8 d8 := ⟨⟨by kernel_rfl, by kernel_rfl, by kernel_rfl, by decide +kernel, by decide +kernel, by decide +kernel, by decide +kernel⟩, rfl, rfl, ⟨by kernel_rfl, by kernel_rfl, by kernel_rfl, by kernel_rfl, by kernel_rfl⟩, by decide +kernel, 200, by kernel_rfl⟩
theorem ok9 : DOk tb.gl tb.fl D9 d9 := ⟨⟨by kernel_rfl, by kernel_rfl, by kernel_rfl, by decide +kernel, by decide +kernel, by decide +kernel, by decide +kernel⟩, rfl, rfl, ⟨by kernel_rfl, by kernel_rfl, by kernel_rfl, by kernel_rfl, by kernel_rfl⟩, by decide +kernel, 200, by kernel_rfl⟩
theorem ok10 : DOk tb.gl tb.fl D10 d10 := ⟨⟨by kernel_rfl, by kernel_rfl, by kernel_rfl, by decide +kernel, by decide +kernel, by decide +kernel, by decide +kernel⟩, rfl, rfl, ⟨by kernel_rfl, by kernel_rfl, by kernel_rfl, by kernel_rfl, by kernel_rfl⟩, by decide +kernel, 200, by kernel_rfl⟩
theorem ok11 : DOk tb.gl tb.fl D11 d11 := ⟨⟨by kernel_rfl, by kernel_rfl, by kernel_rfl, by decide +kernel, by decide +kernel, by decide +kernel, by decide +kernel⟩, rfl, rfl, ⟨by kernel_rfl, by kernel_rfl, by kernel_rfl, by kernel_rfl, by kernel_rfl⟩, by decide +kernel, 200, by kernel_rfl⟩
theorem ok12 : DOk tb.gl tb.fl D12 d12 := ⟨⟨by kernel_rfl, by kernel_rfl, by kernel_rfl, by decide +kernel, by decide +kernel, by decide +kernel, by decide +kernel⟩, rfl, rfl, ⟨by kernel_rfl, by kernel_rfl, by kernel_rfl, by kernel_rfl, by kernel_rfl⟩, by decide +kernel, 200, by kernel_rfl⟩
theorem ok13 : DOk tb.gl tb.fl D13 d13 := ⟨⟨by kernel_rfl, by kernel_rfl, by kernel_rfl, by decide +kernel, by decide +kernel, by decide +kernel, by decide +kernel⟩, rfl, rfl, ⟨by kernel_rfl, by kernel_rfl, by kernel_rfl, by kernel_rfl, by kernel_rfl⟩, by decide +kernel, 200, by kernel_rfl⟩
theorem ok14 : DOk tb.gl tb.fl D14 d14 := ⟨⟨by kernel_rfl, by kernel_rfl, by kernel_rfl, by decide +kernel, by decide +kernel, by decide +kernel, by decide +kernel⟩, rfl, rfl, ⟨by kernel_rfl, by kernel_rfl, by kernel_rfl, by kernel_rfl, by kernel_rfl⟩, by decide +kernel, 200, by kernel_rfl⟩
theorem stOk : TB.St tb where
  fk := by decide +kernel
  ck := by decide +kernel
  ok := by decide +kernel
  nk := by decide +kernel
  nn := by decide +kernel
  nh := by decide +kernel
  ini := by
    intro q hq
    cases hq
  mth := by
    intro q hq m hm
    cases hq
  fn := by
    intro p hp
    simp only [tb, List.mem_cons, List.not_mem_nil, or_false] at hp
    rcases hp with rfl | rfl | rfl | rfl | rfl | rfl | rfl | rfl | rfl | rfl | rfl | rfl | rfl | rfl | rfl
    · exact ok0
    · exact ok1
    · exact ok2
    · exact ok3
    · exact ok4
    · exact ok5
    · exact ok6
    · exact ok7
    · exact ok8
    · exact ok9
    · exact ok10
    · exact ok11
    · exact ok12
    · exact ok13
    · exact ok14
def names0 : List PySem.Str := ["is_integer", "MOST_INDEX", "LIMIT", "is_part", "is_answer", "_law_cell", "_law_stream", "_law_take", "_law_says", "_law_is_integer", "_law_part_right", "_law_is_operation", "_law_spoilt", "_law_form", "_law_answer", "_law_is_answer"]
def names : List PySem.Str := names0
abbrev R : PySem.W.OpenRow := PySem.W.OpenLaw.row PySem.Challenge.rw_gleanhold_k21_answers_are_told
abbrev hk : PySem.W.Hook := tb.hook 4
def ob (s : PySem.W.SharedT) : He.AlD := tb.obsN 4 (HandSHeadRun.getT s)
theorem ob_eq (s : PySem.W.SharedT) : ob s = hk.obs s.abs := TB.obs_eq (HandSHeadRun.getT_eq s)
theorem run (w : World) : HandSHeadRun.RunEq R (PySem.W.view R.prog [19]) hk ob 20000 names w := by
  intro os
  kernel_rfl
end LW
/-! END OF TABLES -/

set_option maxHeartbeats 1000000
namespace LW
open G PySem PySem.Spec PyProof.Rows L2
variable {wf n : Nat} {h : LH}
theorem f0 : tb.prog.fn 0 = some d0 := rfl
theorem f1 : tb.prog.fn 1 = some d1 := rfl
theorem f2 : tb.prog.fn 2 = some d2 := rfl
theorem f3 : tb.prog.fn 3 = some d3 := rfl
theorem f4 : tb.prog.fn 4 = some d4 := rfl
theorem f5 : tb.prog.fn 5 = some d5 := rfl
theorem f6 : tb.prog.fn 6 = some d6 := rfl
theorem f7 : tb.prog.fn 7 = some d7 := rfl
theorem f8 : tb.prog.fn 8 = some d8 := rfl
theorem f10 : tb.prog.fn 10 = some d10 := rfl
theorem f12 : tb.prog.fn 12 = some d12 := rfl
theorem f13 : tb.prog.fn 13 = some d13 := rfl
theorem f14 : tb.prog.fn 14 = some d14 := rfl
@[simp] theorem g0 : tb.prog.con 0 = some (.int 1000000000) := rfl
@[simp] theorem g1 : tb.prog.con 1 = some (.int 1000000000000000000) := rfl
def isIntV (v : Val) (lo hi : Int) : Bool := match v with
  | .int i => decide (lo ≤ i) && decide (i ≤ hi)
  | _ => false
def isI (v : Val) : Bool := match v with
  | .int i => true
  | _ => false
def isB (v : Val) : Bool := match v with
  | .bl i => true
  | _ => false
def isT (v : Val) : Bool := match v with
  | .tup i => true
  | _ => false
def isS (v : Val) : Bool := match v with
  | .str i => true
  | _ => false
def noRef (v : Val) : Prop := ∀ a, v ≠ .ref a
theorem isi_t {v : Val} (hv : noRef v) : isiV h .tup v = some (isT v) := by
  cases v <;> first | rfl | exact absurd rfl (hv _)
theorem isi_s {v : Val} (hv : noRef v) : isiV h .str v = some (isS v) := by
  cases v <;> first | rfl | exact absurd rfl (hv _)
theorem isi_b {v : Val} (hv : noRef v) : isiV h .bool v = some (isB v) := by
  cases v <;> first | rfl | exact absurd rfl (hv _)
theorem isi_i {v : Val} (hv : noRef v) : isiV h .int v = some (isI v || isB v) := by
  cases v <;> first | rfl | exact absurd rfl (hv _)
theorem c0 {v : Val} (hv : noRef v) : callN tb.prog wf (n + 1) 0 [v] h = .ok (.bl (isI v)) h := by
  rw [callN_go f0 rfl]
  simp [d0, isi_i hv, isi_b hv]
  cases v <;> simp [isI, isB]
theorem c7 {v : Val} {lo hi : Int} (hv : noRef v) : callN tb.prog wf (n + 1) 7 [v, .int lo, .int hi] h = .ok (.bl (isIntV v lo hi)) h := by
  rw [callN_go f7 rfl]
  simp [d7, isi_i hv, isi_b hv]
  cases v <;> simp [isIntV, isI, isB, cmpV]
  by_cases c : lo ≤ ‹Int› <;> simp [c]

theorem c1n {v : Val} (hv : noRef v) : callN tb.prog wf (n + 2) 1 [.str (st [110]), v, .int 0, .int 0] h = .ok (.bl (isIntV v (1 - 10 ^ 18) (10 ^ 18 - 1))) h := by
  rw [callN_go f1 rfl]
  simp [d1, c0 hv]
  cases v <;> simp [isIntV, isI, isB, st_inj]
  rename_i i
  rw [Bool.eq_iff_iff]
  by_cases c : i < 0 <;> simp [c] <;> omega
theorem c1s {v : Val} (hv : noRef v) : callN tb.prog wf (n + 2) 1 [.str (st [115]), v, .int 0, .int 0] h = .ok (.bl (isIntV v 1 (10 ^ 9))) h := by
  rw [callN_go f1 rfl]
  simp [d1, c0 hv]
  cases v <;> simp [isIntV, isI, isB, st_inj]
  rename_i i
  by_cases c : 1 ≤ i <;> simp [c]
theorem c8n {v : Val} (hv : noRef v) {w : Val} : callN tb.prog wf (n + 2) 8 [.str (st [110]), v, w] h = .ok (.bl (isIntV v (1 - 10 ^ 18) (10 ^ 18 - 1))) h := by
  rw [callN_go f8 rfl]
  simp [d8, opV, st_inj, c7 hv]
theorem c8s {v : Val} (hv : noRef v) {w : Val} : callN tb.prog wf (n + 2) 8 [.str (st [115]), v, w] h = .ok (.bl (isIntV v 1 (10 ^ 9))) h := by
  rw [callN_go f8 rfl]
  simp [d8, opV, st_inj, c7 hv]
theorem shaped_tup {ds : List PyData} (h : SeqAt.shaped (.tuple ds) = true) : SeqAt.shaped (.tuple ([] : List PyData)) = true := rfl
/-- what an answer is -/
def words : List Str := [st [110, 111, 110, 101], st [114, 97, 110, 103, 101], st [102, 117, 108, 108], st [111, 107]]
def spA (v : Val) : Bool := match v with
  | .tup [.str s] => words.any fun w => w == s
  | .tup [.str s, x] => if s = st [118, 97, 108, 117, 101] then isNon x || isIntV x (1 - 10 ^ 18) (10 ^ 18 - 1) else if s = st [115, 97, 109, 101] then isB x else decide (s = st [115, 105, 122, 101]) && isIntV x 1 (10 ^ 9)
  | _ => false
theorem eq_nil {xs : List Val} {d : PyData} (hd : toPyV (.tup xs) = some d) (hs : SeqAt.shaped d = true) : eqVal h (.tup xs) (.tup []) = some xs.isEmpty := by
  cases xs with
  | nil => rfl
  | cons x xs =>
    simp only [toPyV, Option.map_eq_some_iff] at hd
    obtain ⟨ds, e1, rfl⟩ := hd
    simp only [toPyL, Option.bind_eq_some_iff, Option.map_eq_some_iff] at e1
    obtain ⟨d, e2, ds', e3, rfl⟩ := e1
    have e0 : scEq (.tup (x :: xs)) (.tup []) = none := rfl
    have e4 : pyOf h (.tup (x :: xs)) = some (.tuple (d :: ds')) := by simp [toPyV, toPyL, e2, e3]
    have e5 : pyOf h (.tup []) = some (.tuple []) := rfl
    unfold eqVal
    rw [e0, e4, e5]
    simp only [hs]
    rfl
theorem noRef_of {v : Val} {d : PyData} (hd : toPyV v = some d) : noRef v := by
  rintro a rfl
  cases hd
theorem len1 {v : Val} (hv : noRef v) : isNon v = true ∨ isNon v = false := by cases isNon v <;> simp
theorem isNon_int {v : Val} (h : isNon v = true) : v = .non := by
  cases v <;> first | rfl | cases h
theorem c2 {v : Val} {d : PyData} (hd : toPyV v = some d) (hs : SeqAt.shaped d = true) : callN tb.prog wf (n + 3) 2 [v] h = .ok (.bl (spA v)) h := by
  rw [callN_go f2 rfl]
  have hr := noRef_of hd
  cases v with
  | tup xs =>
    have e := eq_nil (h := h) hd hs
    cases xs with
    | nil => simp [d2, isi_t hr, isT, e, spA]
    | cons x xs =>
      simp only [toPyV, Option.map_eq_some_iff] at hd
      obtain ⟨ds, e1, rfl⟩ := hd
      simp only [toPyL, Option.bind_eq_some_iff, Option.map_eq_some_iff] at e1
      obtain ⟨dx, e2, ds', e3, rfl⟩ := e1
      have hx := noRef_of e2
      cases x with
      | str s =>
        cases xs with
        | nil =>
          have ei : inVal h (.str s) (.tup (words.map Val.str)) = some ((words.map Val.str).any fun y => flatEq y (.str s)) := in_tup_flat rfl rfl
          simp only [words, List.map_cons, List.map_nil] at ei
          simp [ei, d2, isi_t hr, isT, e, isi_s hx, isS, spA, words]
        | cons y ys =>
          simp only [toPyL, Option.bind_eq_some_iff, Option.map_eq_some_iff] at e3
          obtain ⟨dy, e4, ds2, e5, rfl⟩ := e3
          have hy := noRef_of e4
          cases ys with
          | nil =>
            by_cases a1 : s = G.st [118, 97, 108, 117, 101]
            · subst a1
              rcases len1 hy with a4 | a4 <;>
              simp [d2, isi_t hr, isT, e, isi_s hx, isS, spA, isi_b hy, c1n hy, c1s hy, a4]
            by_cases a2 : s = G.st [115, 97, 109, 101]
            · subst a2
              simp [d2, isi_t hr, isT, e, isi_s hx, isS, spA, isi_b hy, c1n hy, c1s hy, st_inj]
            by_cases a3 : s = G.st [115, 105, 122, 101]
            · subst a3
              simp [d2, isi_t hr, isT, e, isi_s hx, isS, spA, isi_b hy, c1n hy, c1s hy, st_inj]
            simp [d2, isi_t hr, isT, e, isi_s hx, isS, spA, a1, a2, a3, isi_b hy, c1n hy, c1s hy, st_inj]
          | cons z zs =>
            have l1 : ¬ ((zs.length : Int) + 1 + 1 + 1 = 1) := by omega
            have l2 : ¬ ((zs.length : Int) + 1 + 1 + 1 = 2) := by omega
            simp [d2, isi_t hr, isT, e, isi_s hx, isS, spA, l1, l2]
      | _ => simp [d2, isi_t hr, isT, e, isi_s hx, isS, spA]
  | _ => first | (exact absurd rfl (hr _)) | simp [d2, isi_t hr, isT, spA]

def isW (v : Val) : Bool := match v with
  | .tup [.str s] => words.any fun w => w == s
  | _ => false
theorem eqv_w {v : Val} {d : PyData} (hd : toPyV v = some d) : (words.any fun w => PyData.eqv (.tuple [.str w]) d) = isW v := by
  cases v with
  | tup xs =>
    simp only [toPyV, Option.map_eq_some_iff] at hd
    obtain ⟨ds, e1, rfl⟩ := hd
    cases xs with
    | nil => cases e1; rfl
    | cons x xs =>
      simp only [toPyL, Option.bind_eq_some_iff, Option.map_eq_some_iff] at e1
      obtain ⟨dx, e2, ds', e3, rfl⟩ := e1
      cases xs with
      | cons y ys =>
        simp only [toPyL, Option.bind_eq_some_iff, Option.map_eq_some_iff] at e3
        obtain ⟨dy, e4, ds2, e5, rfl⟩ := e3
        have e6 : ∀ w, PyData.eqv (.tuple [.str w]) (.tuple (dx :: dy :: ds2)) = false := fun w => by
          show (PyData.eqv (.str w) dx && false) = false
          rw [Bool.and_false]
        simp [e6, isW, words]
      | nil =>
        cases e3
        cases x with
        | str s => cases e2; simp [PyData.eqv, PyData.eqvAll, isW, words]
        | non => cases e2; simp [PyData.eqv, PyData.eqvAll, isW, words]
        | bl _ => cases e2; simp [PyData.eqv, PyData.eqvAll, isW, words]
        | int _ => cases e2; simp [PyData.eqv, PyData.eqvAll, isW, words]
        | ref _ => cases e2
        | tup zs => simp only [toPyV, Option.map_eq_some_iff] at e2; obtain ⟨_, _, rfl⟩ := e2; simp [PyData.eqv, PyData.eqvAll, isW, words]
        | lst zs => simp only [toPyV, Option.map_eq_some_iff] at e2; obtain ⟨_, _, rfl⟩ := e2; simp [PyData.eqv, PyData.eqvAll, isW, words]
        | rol zs => simp only [toPyV, Option.map_eq_some_iff] at e2; obtain ⟨_, _, rfl⟩ := e2; simp [PyData.eqv, PyData.eqvAll, isW, words]
  | str s => cases hd; simp [PyData.eqv, isW, words]
  | non => cases hd; simp [PyData.eqv, isW, words]
  | bl _ => cases hd; simp [PyData.eqv, isW, words]
  | int _ => cases hd; simp [PyData.eqv, isW, words]
  | ref _ => cases hd
  | lst zs => simp only [toPyV, Option.map_eq_some_iff] at hd; obtain ⟨_, _, rfl⟩ := hd; simp [PyData.eqv, isW, words]
  | rol zs => simp only [toPyV, Option.map_eq_some_iff] at hd; obtain ⟨_, _, rfl⟩ := hd; simp [PyData.eqv, isW, words]
theorem in_w {v : Val} {d : PyData} (hd : toPyV v = some d) (hs : SeqAt.shaped d = true) : inVal h v (.lst [.tup [.str (st [110, 111, 110, 101])], .tup [.str (st [114, 97, 110, 103, 101])], .tup [.str (st [102, 117, 108, 108])], .tup [.str (st [111, 107])]]) = some (isW v) := by
  rw [← eqv_w hd]
  have e1 : ([.tup [.str (st [110, 111, 110, 101])], .tup [.str (st [114, 97, 110, 103, 101])], .tup [.str (st [102, 117, 108, 108])], .tup [.str (st [111, 107])]] : List Val).all flat = false := rfl
  have e2 : toPyL [.tup [.str (st [110, 111, 110, 101])], .tup [.str (st [114, 97, 110, 103, 101])], .tup [.str (st [102, 117, 108, 108])], .tup [.str (st [111, 107])]] = some (words.map fun w => .tuple [.str w]) := rfl
  have e3 : SeqAt.shaped (.list (words.map fun w => .tuple [.str w])) = true := by decide +kernel
  simp only [inVal, seqOf, e1, e2, hd, isTup, e3, hs, Bool.and_false, Bool.and_true, Bool.false_eq_true, if_false, if_true, List.any_map]
  rfl
theorem c13 {v : Val} {d : PyData} (hd : toPyV v = some d) (hs : SeqAt.shaped d = true) : callN tb.prog wf (n + 3) 13 [v] h = .ok (.bl (spA v)) h := by
  rw [callN_go f13 rfl]
  have hr := noRef_of hd
  have ew := in_w (h := h) hd hs
  cases hw : isW v with
  | true =>
    cases v with
    | tup xs =>
      cases xs with
      | nil => cases hw
      | cons x xs =>
        cases xs with
        | cons y ys => cases x <;> cases hw
        | nil =>
          cases x with
          | str s =>
            have : spA (.tup [.str s]) = true := hw
            rw [hw] at ew
            simp [d13, ew, isi_t hr, isT, this]
          | _ => cases hw
    | _ => cases hw
  | false =>
    rw [hw] at ew
    cases v with
    | tup xs =>
      cases xs with
      | nil => simp [d13, ew, isi_t hr, isT, spA]
      | cons x xs =>
        cases xs with
        | nil =>
          cases x with
          | str s =>
            have : spA (.tup [.str s]) = false := hw
            simp [d13, ew, isi_t hr, isT, this]
          | _ => simp [d13, ew, isi_t hr, isT, spA]
        | cons y ys =>
          simp only [toPyV, Option.map_eq_some_iff] at hd
          obtain ⟨ds, e1, rfl⟩ := hd
          simp only [toPyL, Option.bind_eq_some_iff, Option.map_eq_some_iff] at e1
          obtain ⟨dx, e2, ds', ⟨dy, e4, ds2, e5, rfl⟩, rfl⟩ := e1
          have hx := noRef_of e2
          have hy := noRef_of e4
          cases ys with
          | cons z zs =>
            have l2 : ¬ ((zs.length : Int) + 1 + 1 + 1 = 2) := by omega
            simp [d13, ew, isi_t hr, isT, l2]
            cases x <;> rfl
          | nil =>
            cases x with
            | str s =>
              by_cases a1 : s = G.st [118, 97, 108, 117, 101]
              · subst a1
                rcases len1 hy with a4 | a4 <;>
                simp [d13, ew, isi_t hr, isT, isi_s hx, isS, spA, isi_b hy, c8n hy, c8s hy, a4]
              by_cases a2 : s = G.st [115, 97, 109, 101]
              · subst a2
                simp [d13, ew, isi_t hr, isT, isi_s hx, isS, spA, isi_b hy, c8n hy, c8s hy, st_inj]
              by_cases a3 : s = G.st [115, 105, 122, 101]
              · subst a3
                simp [d13, ew, isi_t hr, isT, isi_s hx, isS, spA, isi_b hy, c8n hy, c8s hy, st_inj]
              simp [d13, ew, isi_t hr, isT, isi_s hx, isS, spA, a1, a2, a3, isi_b hy, c8n hy, c8s hy, st_inj]
            | _ => simp [d13, ew, isi_t hr, isT, isi_s hx, isS, spA]
    | _ => first | (exact absurd rfl (hr _)) | simp [d13, ew, isi_t hr, isT, spA]

/-! ### what is made -/
def shp : Nat → Val → Bool
  | _, .non => true
  | _, .bl _ => true
  | _, .int _ => true
  | _, .str s => PyData.strOk s
  | n + 1, .tup xs => xs.all (shp n)
  | n + 1, .lst xs => xs.all (shp n)
  | _, _ => false
theorem shp_l {n : Nat} (ih : ∀ v, shp n v = true → ∃ d, toPyV v = some d ∧ d.canLay0 = true ∧ d.depth ≤ n) : ∀ xs : List Val, xs.all (shp n) = true → ∃ ds, toPyL xs = some ds ∧ PyData.canLayAll0 ds = true ∧ PyData.depthAll ds ≤ n
  | [], _ => ⟨[], rfl, rfl, Nat.zero_le _⟩
  | x :: xs, h => by
    rw [List.all_cons, Bool.and_eq_true] at h
    obtain ⟨d, e1, e2, e3⟩ := ih x h.1
    obtain ⟨ds, e4, e5, e6⟩ := shp_l ih xs h.2
    refine ⟨d :: ds, by simp [toPyL, e1, e4], ?_, ?_⟩
    · show (d.canLay0 && PyData.canLayAll0 ds) = true
      rw [e2, e5]; rfl
    · show max d.depth (PyData.depthAll ds) ≤ n
      omega
theorem shp_ok : ∀ (n : Nat) (v : Val), shp n v = true → ∃ d, toPyV v = some d ∧ d.canLay0 = true ∧ d.depth ≤ n
  | n, .non, _ => ⟨_, rfl, by simp only [PyData.canLay0], Nat.zero_le _⟩
  | n, .bl _, _ => ⟨_, rfl, by simp only [PyData.canLay0], Nat.zero_le _⟩
  | n, .int _, _ => ⟨_, rfl, by simp only [PyData.canLay0], Nat.zero_le _⟩
  | n, .str s, h => ⟨_, rfl, by
      have h : PyData.strOk s = true := by cases n <;> exact h
      show PyData.strOk s = true
      exact h, Nat.zero_le _⟩
  | 0, .tup xs, h => by cases h
  | 0, .lst xs, h => by cases h
  | n + 1, .tup xs, h => by
    obtain ⟨ds, e1, e2, e3⟩ := shp_l (shp_ok n) xs h
    exact ⟨.tuple ds, by simp [toPyV, e1], e2, Nat.succ_le_succ e3⟩
  | n + 1, .lst xs, h => by
    obtain ⟨ds, e1, e2, e3⟩ := shp_l (shp_ok n) xs h
    exact ⟨.list ds, by simp [toPyV, e1], e2, Nat.succ_le_succ e3⟩
  | 0, .rol _, h => by cases h
  | n + 1, .rol _, h => by cases h
  | 0, .ref _, h => by cases h
  | n + 1, .ref _, h => by cases h
theorem dat_of {k : Nat} {v : Val} (h : shp k v = true) (hk : k ≤ 64) : ∃ d, toPyV v = some d ∧ SeqAt.shaped d = true := by
  obtain ⟨d, e1, e2, e3⟩ := shp_ok k v h
  refine ⟨d, e1, ?_⟩
  unfold SeqAt.shaped
  rw [e2, Bool.true_and]
  exact decide_eq_true (by omega)
theorem shp_mono : ∀ (n m : Nat) (v : Val), n ≤ m → shp n v = true → shp m v = true
  | n, m, .non, _, _ => by cases m <;> rfl
  | n, m, .bl _, _, _ => by cases m <;> rfl
  | n, m, .int _, _, _ => by cases m <;> rfl
  | n, m, .str s, _, h => by
      have h : PyData.strOk s = true := by cases n <;> exact h
      cases m <;> exact h
  | 0, m, .tup xs, _, h => by cases h
  | 0, m, .lst xs, _, h => by cases h
  | n + 1, 0, .tup _, hl, _ => by omega
  | n + 1, 0, .lst _, hl, _ => by omega
  | n + 1, m + 1, .tup xs, hl, h => List.all_eq_true.mpr fun x hx => shp_mono n m x (by omega) (List.all_eq_true.mp h x hx)
  | n + 1, m + 1, .lst xs, hl, h => List.all_eq_true.mpr fun x hx => shp_mono n m x (by omega) (List.all_eq_true.mp h x hx)
  | 0, m, .rol _, _, h => by cases h
  | n + 1, m, .rol _, _, h => by cases h
  | 0, m, .ref _, _, h => by cases h
  | n + 1, m, .ref _, _, h => by cases h
/-- the stream -/
def Stm (h : LH) (a : Nat) : Prop := ∃ x y : Int, h[a]? = some (.lst [.int x, .int y])
theorem get_set {a : Nat} {o o' : Ob} (hh : h[a]? = some o) : (h.set a o')[a]? = some o' := by
  have l : a < h.length := (List.getElem?_eq_some_iff.mp hh).1
  exact List.getElem?_set_self l
theorem ix_ref {a : Nat} {xs : List Val} {i : Int} (hh : h[a]? = some (.lst xs)) : ixVal h (.ref a) (.int i) = atI xs i := by
  simp [ixVal, hh]
theorem sub_ref0 {a : Nat} {x y v : Val} (hh : h[a]? = some (.lst [x, y])) : setSub (.ref a) (.int 0) v h = some (h.set a (.lst [v, y])) := by
  simp [setSub, hh, ixN]
theorem sub_ref1 {a : Nat} {x y v : Val} (hh : h[a]? = some (.lst [x, y])) : setSub (.ref a) (.int 1) v h = some (h.set a (.lst [x, v])) := by
  simp [setSub, hh, ixN]
theorem c5 {a : Nat} {m : Int} (hs : Stm h a) (h0 : 0 < m) (h1 : m < 1073741824) : ∃ w h', callN tb.prog wf (n + 1) 5 [.ref a, .int m] h = .ok (.int w) h' ∧ Stm h' a ∧ 0 ≤ w ∧ w < m := by
  obtain ⟨x, y, hh⟩ := hs
  by_cases hx : 0 < x
  · refine ⟨x % m, h.set a (.lst [.int (x / m), .int y]), ?_, ⟨_, _, get_set hh⟩, Int.emod_nonneg _ (by omega), Int.emod_lt_of_pos _ h0⟩
    rw [callN_go f5 rfl]
    simp [d5, ix_ref hh, hx, h0, h1, sub_ref0 hh]
  · let y1 := (y * 48271 + 69621) % 2147483647
    have y2 : 0 ≤ y1 := Int.emod_nonneg _ (by omega)
    have y3 : y1 < 2147483647 := Int.emod_lt_of_pos _ (by omega)
    have g : (h.set a (.lst [.int x, .int y1]))[a]? = some (.lst [.int x, .int y1]) := get_set hh
    have hb : (-18446744073709551616 < y1 ∧ y1 < 18446744073709551616) := ⟨by omega, by omega⟩
    refine ⟨(y1 * y1 / 1009 + y1 / 7) % m, h.set a (.lst [.int x, .int y1]), ?_, ⟨_, _, g⟩, Int.emod_nonneg _ (by omega), Int.emod_lt_of_pos _ h0⟩
    rw [callN_go f5 rfl]
    simp [d5, ix_ref hh, hx, h0, h1, sub_ref1 hh]
    rw [show (y * 48271 + 69621) % 2147483647 = y1 from rfl]
    simp [ix_ref g, hb, h0]
theorem atI_in {xs : List Val} {w : Int} (h0 : 0 ≤ w) (h1 : w < xs.length) : ∃ v, v ∈ xs ∧ atI xs w = some v := by
  have : w.toNat < xs.length := by omega
  refine ⟨xs[w.toNat], List.getElem_mem _, ?_⟩
  have e := L2.atI_nat (xs := xs) (j := w.toNat) (List.getElem?_eq_getElem this)
  rw [Int.toNat_of_nonneg h0] at e
  exact e

/-! ### an answer -/
def okF (v : Val) : Prop := flat v = true ∧ shp 0 v = true
theorem okF_int (i : Int) : okF (.int i) := ⟨rfl, rfl⟩
theorem okF_non : okF .non := ⟨rfl, rfl⟩
theorem okF_bl (b : Bool) : okF (.bl b) := ⟨rfl, rfl⟩
theorem okF_str {s : Str} (h : PyData.strOk s = true) : okF (.str s) := ⟨rfl, h⟩
def Ans (v : Val) : Prop := (∃ x, v = .tup [x] ∧ okF x) ∨ ∃ x y, v = .tup [x, y] ∧ okF x ∧ okF y
theorem pow9 : opV h .pow (.int 10) (.int 9) = some (.int 1000000000) := by
  simp [opV]
theorem pow18 : opV h .pow (.int 10) (.int 18) = some (.int 1000000000000000000) := by
  simp [opV]
theorem c12 {a : Nat} (hs : Stm h a) : ∃ v h', callN tb.prog wf (n + 2) 12 [.ref a] h = .ok v h' ∧ Stm h' a ∧ Ans v := by
  obtain ⟨w1, h1, e1, s1, p1, q1⟩ := c5 (wf := wf) (n := n) (m := 99) hs (by omega) (by omega)
  obtain ⟨w2, h2, e2, s2, p2, q2⟩ := c5 (wf := wf) (n := n) (m := 9) s1 (by omega) (by omega)
  obtain ⟨w3, h3, e3, s3, p3, q3⟩ := c5 (wf := wf) (n := n) (m := 2) s2 (by omega) (by omega)
  obtain ⟨w4, h4, e4, s4, p4, q4⟩ := c5 (wf := wf) (n := n) (m := 8) s3 (by omega) (by omega)
  let nums : List Val := [.int 0, .int 1, .int 1000000000, .int 1000000001, .int 999999999999999999, .int 1000000000000000000, .int (-999999999999999999), .int (-w1), .non]
  obtain ⟨x, hx, ex⟩ := atI_in (xs := nums) (w := w2) p2 (by simpa [nums] using q2)
  have fx : okF x := by
    simp only [nums, List.mem_cons, List.not_mem_nil, or_false] at hx
    rcases hx with rfl | rfl | rfl | rfl | rfl | rfl | rfl | rfl | rfl <;> first | exact okF_int _ | exact okF_non
  let menu : List Val := [.tup [.str (st [110, 111, 110, 101])], .tup [.str (st [114, 97, 110, 103, 101])], .tup [.str (st [102, 117, 108, 108])], .tup [.str (st [111, 107])], .tup [.str (st [118, 97, 108, 117, 101]), x], .tup [.str (st [115, 97, 109, 101]), .bl (decide (w3 = 0))], .tup [.str (st [115, 105, 122, 101]), x], .tup [.str (st [118, 97, 108, 117, 101]), .non]]
  obtain ⟨v, hv, ev⟩ := atI_in (xs := menu) (w := w4) p4 (by simpa [menu] using q4)
  have fv : Ans v := by
    simp only [menu, List.mem_cons, List.not_mem_nil, or_false] at hv
    have k : ∀ s : Str, PyData.strOk s = true → okF (.str s) := fun s => okF_str
    rcases hv with rfl | rfl | rfl | rfl | rfl | rfl | rfl | rfl
    · exact .inl ⟨_, rfl, k _ (by decide +kernel)⟩
    · exact .inl ⟨_, rfl, k _ (by decide +kernel)⟩
    · exact .inl ⟨_, rfl, k _ (by decide +kernel)⟩
    · exact .inl ⟨_, rfl, k _ (by decide +kernel)⟩
    · exact .inr ⟨_, _, rfl, k _ (by decide +kernel), fx⟩
    · exact .inr ⟨_, _, rfl, k _ (by decide +kernel), okF_bl _⟩
    · exact .inr ⟨_, _, rfl, k _ (by decide +kernel), fx⟩
    · exact .inr ⟨_, _, rfl, k _ (by decide +kernel), okF_non⟩
  refine ⟨v, h4, ?_, s4, fv⟩
  rw [callN_go f12 rfl]
  simp only [nums] at ex
  simp only [menu] at ev
  simp [d12, pow9, pow18, e1, e2, ex, e3, e4, ev]
/-! ### what is spoilt -/
def odd : List Val := [.non, .bl true, .int (-1), .int 0, .int 1, .int 2, .int 3, .int 1000000000, .int 1000000001, .int 1000000000000000000, .int 999999999999999999, .int (-1000000000000000000), .str (st [112, 117, 116]), .str (st [100, 114, 111, 112]), .tup [], .lst [.int 0]]
theorem odd_shp {v : Val} (hv : v ∈ odd) : shp 2 v = true := by
  have : odd.all (shp 2) = true := by decide +kernel
  exact List.all_eq_true.mp this v hv
theorem noRef_f {v : Val} (hv : okF v) : noRef v := by
  rintro a rfl
  exact absurd hv.1 (by simp [flat])
theorem isT_f {v : Val} (hv : okF v) : isT v = false := by
  cases v <;> first | rfl | exact absurd hv.1 (by decide) | (have := hv.1; cases this)
theorem c10f {a : Nat} {v : Val} (hs : Stm h a) (hv : okF v) : ∃ v' h', callN tb.prog wf (n + 2) 10 [.ref a, v, .lst [.int 2, .int 3]] h = .ok v' h' ∧ Stm h' a ∧ shp 2 v' = true := by
  obtain ⟨w1, h1, e1, s1, p1, q1⟩ := c5 (wf := wf) (n := n) (m := 16) hs (by omega) (by omega)
  obtain ⟨x, hx, ex⟩ := atI_in (xs := odd) (w := w1) p1 (by simpa [odd] using q1)
  refine ⟨x, h1, ?_, s1, odd_shp hx⟩
  rw [callN_go f10 rfl]
  simp only [odd] at ex
  simp [d10, pow9, pow18, isi_t (noRef_f hv), isT_f hv, e1, ex]

theorem shp_f {v : Val} (hv : okF v) (k : Nat) : shp k v = true := shp_mono 0 k v (Nat.zero_le _) hv.2
theorem cut_a {x : Val} : cutL [x] none (some 0) = [] := rfl
theorem cut_b {x : Val} : cutL [x] (some 1) none = [] := rfl
theorem cut_c {x y : Val} : cutL [x, y] none (some 0) = [] := rfl
theorem cut_d {x y : Val} : cutL [x, y] none (some 1) = [x] := rfl
theorem cut_e {x y : Val} : cutL [x, y] (some 1) none = [y] := rfl
theorem cut_f {x y : Val} : cutL [x, y] (some 2) none = [] := rfl
theorem cut_g {x : Val} : cutL [x] none (some (-1)) = [] := rfl
theorem cut_h {x y : Val} : cutL [x, y] none (some (-1)) = [x] := rfl
theorem eq_nil1 {x : Val} (hx : okF x) : eqVal h (.tup [x]) (.tup []) = some false := by
  obtain ⟨d, e1, e2⟩ := dat_of (k := 1) (v := .tup [x]) (by simp [shp, hx.2]) (by omega)
  exact eq_nil e1 e2
theorem eq_nil2 {x y : Val} (hx : okF x) (hy : okF y) : eqVal h (.tup [x, y]) (.tup []) = some false := by
  obtain ⟨d, e1, e2⟩ := dat_of (k := 1) (v := .tup [x, y]) (by simp [shp, hx.2, hy.2]) (by omega)
  exact eq_nil e1 e2
@[simp] theorem isi_tup {xs : List Val} : isiV h .tup (.tup xs) = some true := rfl
@[simp] theorem bs_list {xs : List Val} : seqOf h (.tup xs) = some xs := rfl
theorem c10a {a : Nat} {x : Val} (hs : Stm h a) (hx : okF x) : ∃ v' h', callN tb.prog wf (n + 3) 10 [.ref a, .tup [x], .lst [.int 2, .int 3]] h = .ok v' h' ∧ Stm h' a ∧ shp 4 v' = true := by
  have en := fun h => eq_nil1 (h := h) hx
  obtain ⟨w1, h1, e1, s1, p1, q1⟩ := c5 (wf := wf) (n := n + 1) (m := 5) hs (by omega) (by omega)
  by_cases c1 : 0 < w1
  · obtain ⟨w2, h2, e2, s2, p2, q2⟩ := c5 (wf := wf) (n := n + 1) (m := 1) s1 (by omega) (by omega)
    obtain rfl : w2 = 0 := by omega
    obtain ⟨v, h3, e3, s3, sv⟩ := c10f (wf := wf) (n := n) s2 hx
    refine ⟨.tup [v], h3, ?_, s3, by simp [shp, shp_mono 2 3 v (by omega) sv]⟩
    rw [callN_go f10 rfl]
    simp [d10, pow9, pow18, en, e1, c1, e2, e3, cut_a, cut_b]
  · obtain ⟨w2, h2, e2, s2, p2, q2⟩ := c5 (wf := wf) (n := n + 1) (m := 2) s1 (by omega) (by omega)
    by_cases c2 : w2 = 0
    · subst c2
      obtain ⟨w3, h3, e3, s3, p3, q3⟩ := c5 (wf := wf) (n := n + 1) (m := 6) s2 (by omega) (by omega)
      let menu : List Val := [.tup [], .tup [x, .int 0], .lst [x], .tup [x], .tup [.tup [x]], .tup [x]]
      obtain ⟨v, hv, ev⟩ := atI_in (xs := menu) (w := w3) p3 (by simpa [menu] using q3)
      have sx := fun k => shp_f hx k
      have fv : shp 4 v = true := by
        have : menu.all (shp 4) = true := by simp [menu, shp, sx]
        exact List.all_eq_true.mp this v hv
      refine ⟨v, h3, ?_, s3, fv⟩
      rw [callN_go f10 rfl]
      simp only [menu] at ev
      simp [d10, pow9, pow18, en, e1, c1, e2, e3, cut_g, cut_b, ev]
    · obtain ⟨w3, h3, e3, s3, p3, q3⟩ := c5 (wf := wf) (n := n + 1) (m := 16) s2 (by omega) (by omega)
      obtain ⟨v, hv, ev⟩ := atI_in (xs := odd) (w := w3) p3 (by simpa [odd] using q3)
      refine ⟨v, h3, ?_, s3, shp_mono 2 4 v (by omega) (odd_shp hv)⟩
      rw [callN_go f10 rfl]
      simp only [odd] at ev
      simp [d10, pow9, pow18, en, e1, c1, e2, c2, e3, ev]
theorem c10b {a : Nat} {x y : Val} (hs : Stm h a) (hx : okF x) (hy : okF y) : ∃ v' h', callN tb.prog wf (n + 3) 10 [.ref a, .tup [x, y], .lst [.int 2, .int 3]] h = .ok v' h' ∧ Stm h' a ∧ shp 4 v' = true := by
  have en := fun h => eq_nil2 (h := h) hx hy
  have sx := fun k => shp_f hx k
  have sy := fun k => shp_f hy k
  obtain ⟨w1, h1, e1, s1, p1, q1⟩ := c5 (wf := wf) (n := n + 1) (m := 5) hs (by omega) (by omega)
  by_cases c1 : 0 < w1
  · obtain ⟨w2, h2, e2, s2, p2, q2⟩ := c5 (wf := wf) (n := n + 1) (m := 2) s1 (by omega) (by omega)
    have hw : w2 = 0 ∨ w2 = 1 := by omega
    rcases hw with rfl | rfl
    · obtain ⟨v, h3, e3, s3, sv⟩ := c10f (wf := wf) (n := n) s2 hx
      refine ⟨.tup [v, y], h3, ?_, s3, by simp [shp, shp_mono 2 3 v (by omega) sv, sy]⟩
      rw [callN_go f10 rfl]
      simp [d10, pow9, pow18, en, e1, c1, e2, e3, cut_c, cut_e]
    · obtain ⟨v, h3, e3, s3, sv⟩ := c10f (wf := wf) (n := n) s2 hy
      refine ⟨.tup [x, v], h3, ?_, s3, by simp [shp, shp_mono 2 3 v (by omega) sv, sx]⟩
      rw [callN_go f10 rfl]
      simp [d10, pow9, pow18, en, e1, c1, e2, e3, cut_d, cut_f]
  · obtain ⟨w2, h2, e2, s2, p2, q2⟩ := c5 (wf := wf) (n := n + 1) (m := 2) s1 (by omega) (by omega)
    by_cases c2 : w2 = 0
    · subst c2
      obtain ⟨w3, h3, e3, s3, p3, q3⟩ := c5 (wf := wf) (n := n + 1) (m := 6) s2 (by omega) (by omega)
      let menu : List Val := [.tup [x], .tup [x, y, .int 0], .lst [x, y], .tup [y, x], .tup [.tup [x, y]], .tup [x, y, y]]
      obtain ⟨v, hv, ev⟩ := atI_in (xs := menu) (w := w3) p3 (by simpa [menu] using q3)
      have fv : shp 4 v = true := by
        have : menu.all (shp 4) = true := by simp [menu, shp, sx, sy]
        exact List.all_eq_true.mp this v hv
      refine ⟨v, h3, ?_, s3, fv⟩
      rw [callN_go f10 rfl]
      simp only [menu] at ev
      simp [d10, pow9, pow18, en, e1, c1, e2, e3, cut_h, cut_e, ev]
    · obtain ⟨w3, h3, e3, s3, p3, q3⟩ := c5 (wf := wf) (n := n + 1) (m := 16) s2 (by omega) (by omega)
      obtain ⟨v, hv, ev⟩ := atI_in (xs := odd) (w := w3) p3 (by simpa [odd] using q3)
      refine ⟨v, h3, ?_, s3, shp_mono 2 4 v (by omega) (odd_shp hv)⟩
      rw [callN_go f10 rfl]
      simp only [odd] at ev
      simp [d10, pow9, pow18, en, e1, c1, e2, c2, e3, ev]

/-! ### the law -/
theorem c3 {ns : List Int} {i : Int} (h0 : 0 ≤ i) : ∃ z : Int, callN tb.prog wf (n + 1) 3 [.rol (ns.map .int), .int i] h = .ok (.int z) h := by
  rw [callN_go f3 rfl]
  by_cases c : i < ns.length
  · obtain ⟨v, hv, e⟩ := atI_in (xs := ns.map Val.int) (w := i) h0 (by simpa using c)
    obtain ⟨z, _, rfl⟩ := List.mem_map.mp hv
    exact ⟨z, by simp [d3, c, e]⟩
  · exact ⟨0, by simp [d3, c]⟩
theorem c4 {z : Int} : ∃ h' a, callN tb.prog wf (n + 1) 4 [.int z] h = .ok (.ref a) h' ∧ Stm h' a := by
  rw [callN_go f4 rfl]
  by_cases c : 1000000000000000000 ≤ z
  · refine ⟨h ++ [.lst [.int z, .int 1]], h.length, by simp [d4, pow18, c], z, 1, by simp⟩
  · refine ⟨h ++ [.lst [.int 0, .int z]], h.length, by simp [d4, pow18, c], 0, z, by simp⟩
theorem c6 {a b : Bool} : callN tb.prog wf (n + 1) 6 [.bl a, .bl b] h = .ok (.bl (decide (a = b))) h := by
  rw [callN_go f6 rfl]
  simp [d6, isiV, isOwn, tyB]
/-- the slots between two turns -/
def Sl (ns : List Int) (a : Nat) (σ : G.Env) : Prop := ∃ k t an v, σ = [some (.rol (ns.map .int)), k, some (.ref a), t, an, v]
def Sl0 (ns : List Int) (σ : G.Env) : Prop := ∃ k s t an v, σ = [some (.rol (ns.map .int)), k, s, t, an, v]
theorem inner {ns : List Int} {a : Nat} {t : Option Val} {xs : List Val} (hx : ∀ x ∈ xs, ∃ d, toPyV x = some d ∧ SeqAt.shaped d = true) (σ : G.Env) (hσ : Sl ns a σ) (hs : Stm h a) (body : Ss)
    (hb : body = .cons (.ite (.not (.call 6 (.cons (.call 2 (.cons (.v 5) .nil)) (.cons (.call 13 (.cons (.v 5) .nil)) .nil)))) (.cons (.ret (.c (.bl false))) .nil) .nil) .nil) :
    ∃ σ' h', forN (exSs ⟨tb.prog, wf, callN tb.prog wf (n + 3), none⟩ body) (.v 5) (.one (.fix xs)) xs.length 0 σ h = .nx σ' h' ∧ Sl ns a σ' ∧ Stm h' a := by
  obtain ⟨σ', h', e, i1, i2⟩ := for_inv (fun _ σ h => Sl ns a σ ∧ Stm h a) (body := exSs ⟨tb.prog, wf, callN tb.prog wf (n + 3), none⟩ body) (tg := .v 5) (xs := xs) (fun i x σ h hi ⟨⟨k, t, an, v, e⟩, s⟩ => by
    subst e
    obtain ⟨d, e1, e2⟩ := hx x (List.mem_of_getElem? hi)
    refine ⟨_, _, h, rfl, ?_, ⟨k, t, an, some x, rfl⟩, s⟩
    subst hb
    simp [c2 e1 e2, c13 e1 e2, c6]) xs.length 0 σ h (by omega) (by omega) ⟨hσ, hs⟩
  exact ⟨σ', h', e, i1, i2⟩

def inB : Ss := .cons (.ite (.not (.call 6 (.cons (.call 2 (.cons (.v 5) .nil)) (.cons (.call 13 (.cons (.v 5) .nil)) .nil)))) (.cons (.ret (.c (.bl false))) .nil) .nil) .nil
def tuB : Ss := (.cons (.set (.v 4) (.call 12 (.cons (.v 2) .nil))) (.cons (.for (.v 5) (.val (.fr (.disp (.cons (.v 4) (.cons (.call 10 (.cons (.v 2) (.cons (.v 4) (.cons (.fr (.disp (.cons (.c (.int 2)) (.cons (.c (.int 3)) .nil)))) .nil)))) (.cons (.fr (.list (.v 4))) (.cons (.tup (.cons (.c (.str (st [118, 97, 108, 117, 101]))) (.cons (.c (.bl true)) .nil))) (.cons (.tup (.cons (.c (.str (st [115, 97, 109, 101]))) (.cons (.c (.int 1)) .nil))) (.cons (.tup (.cons (.c (.str (st [102, 117, 108, 108]))) (.cons (.c .non) .nil))) .nil))))))))) inB) .nil))
theorem ans_shp {v : Val} (hv : Ans v) : ∃ xs, v = .tup xs ∧ xs.all (shp 1) = true := by
  rcases hv with ⟨x, rfl, hx⟩ | ⟨x, y, rfl, hx, hy⟩
  · exact ⟨_, rfl, by simp [shp_f hx]⟩
  · exact ⟨_, rfl, by simp [shp_f hx, shp_f hy]⟩
theorem c10A {a : Nat} {v : Val} (hs : Stm h a) (hv : Ans v) : ∃ v' h', callN tb.prog wf (n + 3) 10 [.ref a, v, .lst [.int 2, .int 3]] h = .ok v' h' ∧ Stm h' a ∧ shp 4 v' = true := by
  rcases hv with ⟨x, rfl, hx⟩ | ⟨x, y, rfl, hx, hy⟩
  · exact c10a hs hx
  · exact c10b hs hx hy
theorem turn {ns : List Int} {a : Nat} (σ : G.Env) (hσ : Sl ns a σ) (hs : Stm h a) :
    ∃ σ' h', exSs ⟨tb.prog, wf, callN tb.prog wf (n + 3), none⟩ tuB σ h = .nx σ' h' ∧ Sl ns a σ' ∧ Stm h' a := by
  obtain ⟨k, t, an, v0, rfl⟩ := hσ
  obtain ⟨v, h1, e1, s1, av⟩ := c12 (wf := wf) (n := n + 1) hs
  obtain ⟨v', h2, e2, s2, sv⟩ := c10A (wf := wf) (n := n) s1 av
  obtain ⟨xs, rfl, hx⟩ := ans_shp av
  have mem : ∀ x ∈ ([.tup xs, v', .lst xs, .tup [.str (st [118, 97, 108, 117, 101]), .bl true], .tup [.str (st [115, 97, 109, 101]), .int 1], .tup [.str (st [102, 117, 108, 108]), .non]] : List Val), ∃ d, toPyV x = some d ∧ SeqAt.shaped d = true := by
    intro x hm
    simp only [List.mem_cons, List.not_mem_nil, or_false] at hm
    rcases hm with rfl | rfl | rfl | rfl | rfl | rfl
    · exact dat_of (k := 2) (by simpa [shp] using hx) (by omega)
    · exact dat_of (k := 4) sv (by omega)
    · exact dat_of (k := 2) (by simpa [shp] using hx) (by omega)
    · exact dat_of (k := 2) (by decide +kernel) (by omega)
    · exact dat_of (k := 2) (by decide +kernel) (by omega)
    · exact dat_of (k := 2) (by decide +kernel) (by omega)
  obtain ⟨σ', h', e3, s3, t3⟩ := inner (wf := wf) (n := n) (h := h2) (t := none) (ns := ns) (a := a) mem [some (.rol (ns.map .int)), k, some (.ref a), t, some (.tup xs), v0] ⟨_, _, _, _, rfl⟩ s2 inB rfl
  refine ⟨σ', h', ?_, s3, t3⟩
  simp [tuB, e1, e2]
  simp only [List.length_cons, List.length_nil, Nat.zero_add, Nat.reduceAdd] at e3
  rw [e3]
  rfl
def ouB : Ss := (.cons (.set (.v 2) (.call 4 (.cons (.call 3 (.cons (.v 0) (.cons (.v 1) .nil))) .nil))) (.cons (.for (.v 3) (.rng (.c (.int 6))) tuB) .nil))
theorem outer {ns : List Int} (σ : G.Env) (i : Nat) (hσ : ∃ s t an v, σ = [some (.rol (ns.map .int)), some (.int (0 + (i : Nat))), s, t, an, v]) :
    ∃ σ' h', exSs ⟨tb.prog, wf, callN tb.prog wf (n + 3), none⟩ ouB σ h = .nx σ' h' ∧ Sl0 ns σ' := by
  obtain ⟨s, t, an, v, rfl⟩ := hσ
  obtain ⟨z, e1⟩ := c3 (wf := wf) (n := n + 2) (h := h) (ns := ns) (i := 0 + (i : Nat)) (by omega)
  obtain ⟨h1, a, e2, s2⟩ := c4 (wf := wf) (n := n + 2) (h := h) (z := z)
  obtain ⟨σ', h', e3, i3, _⟩ := for_inv (fun _ σ h => Sl ns a σ ∧ Stm h a) (body := exSs ⟨tb.prog, wf, callN tb.prog wf (n + 3), none⟩ tuB) (tg := .v 3) (xs := rngL 0 6) (fun i x σ h hi ⟨⟨k, t, an, v, e⟩, s⟩ => by
    subst e
    obtain ⟨σ', h', e4, s4, t4⟩ := turn (wf := wf) (n := n) (ns := ns) (a := a) [some (.rol (ns.map .int)), k, some (.ref a), some x, an, v] ⟨_, _, _, _, rfl⟩ s
    exact ⟨_, σ', h', rfl, e4, s4, t4⟩) (rngL 0 6).length 0 [some (.rol (ns.map .int)), some (.int (0 + (i : Nat))), some (.ref a), t, an, v] h1 (by omega) (by omega) ⟨⟨_, _, _, _, rfl⟩, s2⟩
  obtain ⟨k, t', an', v', rfl⟩ := i3
  refine ⟨[some (.rol (ns.map .int)), k, some (.ref a), t', an', v'], h', ?_, _, _, _, _, _, rfl⟩
  simp [ouB, e1, e2]
  rw [rngL_len] at e3
  have ok : rngOk 6 := by decide
  simp at e1 e2 e3
  simp [e1, e2, ok, e3]
theorem main (ns : List Int) (hl : ns.length ≤ 63) (_ : ∀ z ∈ ns, Builtin.Int.intBits z ≤ 1048576) : ∃ h, callN tb.prog 0 4 14 [.rol (ns.map .int)] [] = .ok (.bl true) h := by
  let L : Int := ns.length
  let m : Int := if L < 12 then L else 12
  let j : Int := if m > 1 then m else 1
  have hj : rngOk j := by
    have : 0 ≤ L := by omega
    unfold rngOk
    simp only [j, m]
    split <;> split <;> omega
  obtain ⟨σ', h', e, i3⟩ := for_inv (fun _ σ _ => Sl0 ns σ) (body := exSs ⟨tb.prog, 0, callN tb.prog 0 3, none⟩ ouB) (tg := .v 1) (xs := rngL 0 j.toNat) (fun i x σ h hi ⟨k, s, t, an, v, e⟩ => by
    subst e
    obtain ⟨_, rfl⟩ := rngL_at hi
    obtain ⟨σ', h', e4, s4⟩ := outer (wf := 0) (n := 0) (ns := ns) (h := h) [some (.rol (ns.map .int)), some (.int (0 + (i : Nat))), s, t, an, v] i ⟨_, _, _, _, rfl⟩
    exact ⟨_, σ', h', rfl, e4, s4⟩) j.toNat 0 [some (.rol (ns.map .int)), none, none, none, none, none] [] (by simp) (by simp) ⟨_, _, _, _, _, rfl⟩
  refine ⟨h', ?_⟩
  rw [callN_go f14 rfl]
  have e5 : exSs ⟨tb.prog, 0, callN tb.prog 0 3, none⟩ d14.body [some (.rol (ns.map .int)), none, none, none, none, none] [] = .rt (.bl true) h' := by
    show (exS ⟨tb.prog, 0, callN tb.prog 0 3, none⟩ (.for (.v 1) (.rng (.bi .max2 (.cons (.c (.int 1)) (.cons (.bi .min2 (.cons (.c (.int 12)) (.cons (.bi .len (.cons (.v 0) .nil)) .nil))) .nil)))) ouB) _ _).next _ = _
    simp
    have hj2 : rngOk (if (if (ns.length : Int) < 12 then (ns.length : Int) else 12) > 1 then (if (ns.length : Int) < 12 then (ns.length : Int) else 12) else 1) := hj
    simp only [gt_iff_lt] at hj2
    simp only [hj2]
    simp
    simp only [j, m, L, gt_iff_lt] at e
    rw [e]
    simp
  exact congrArg SR.fin e5
abbrev depth : Nat := 4
abbrev turns : Nat := 0
end LW

open PySem PySem.W PySem.Calls PyProof.Rows G
theorem PySem.Challenge.cw_gleanhold_k21_answers_are_told_holds : PySem.Challenge.rw_gleanhold_k21_answers_are_told.Holds := by
  w_on; o_law
  refine HandSHeadRun.head_any (r := OpenLaw.row PySem.Challenge.rw_gleanhold_k21_answers_are_told) (q := view (OpenLaw.row PySem.Challenge.rw_gleanhold_k21_answers_are_told).prog [19]) (H := LW.hk) (ob := LW.ob) (M := 20000) (loose := LW.names) (d := HandSHeadRun.topDef (OpenLaw.row PySem.Challenge.rw_gleanhold_k21_answers_are_told).prog 19) (kwd := []) LW.ob_eq
    (by kernel_rfl) (fun s => by kernel_rfl) LW.run (by kernel_rfl) (by kernel_rfl) (by kernel_rfl) (by rfl) (by first | assumption | decide +kernel) (by decide +kernel) ⟨rfl, rfl, rfl, rfl, rfl, by decide +kernel⟩ ?hw ?hc
  case hw => w_witness2
  case hc =>
    exact TB.law_ LW.stOk (l := PySem.Challenge.rw_gleanhold_k21_answers_are_told) (n := 63) (N := LW.depth) (wf := LW.turns) (f := 14) (p := ⟨((st [108, 97, 119]), none), LW.D14, LW.d14⟩) (x := (st [115, 99, 114, 105, 112, 116])) rfl (by decide) (by kernel_rfl) ⟨rfl, by decide, by decide⟩ (by kernel_rfl) (by kernel_rfl) (by kernel_rfl) LW.main
