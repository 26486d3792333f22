import PyProof.Rows.All
import Wide.All
import OpenK.AllK
import Wide.FinOn
import HandS.ForExc
import HandS.Flow
import HandS.Deep
import HandS.IsInst
import HandS.TryOnly
import HandS.Wide
import HandS.Comp
import HandS.Iter
import HandS.SortInts
import HandS.More
import HandS.Zip
import HandS.Conv
import HandS.SetFor
import KE.SortData
import KE.DataCmp
import KE.DataMinMax
import KE.DataFind
import KE.DataEq
import HandS.SortKw
import HandS.Defaults
import PyProof.P3In
import PyProof.EnumMake
import KE.GoesMore
import KE.KDictZip
import HandS.MapObj
import PyProof.ListNew
import HandS.Head0
import HandS.Head1
import HandS.Head2
import HandS.HeadEnd
import HandS.HeadHook1
import HandS.HeadHook2
import HandS.HeadHook4
import PySem.Challenge.RW_arcscrossed_k02_main_crossings_and_nesti
set_option Elab.async false
set_option linter.all false
set_option maxRecDepth 100000
set_option maxHeartbeats 2000000
/-! A small language of the program's own forms, its meaning as functions of plain data. -/
namespace M
open PySem PySem.Spec PyProof.Rows L2

/-- plain data; ref n: the n-th cell of the store (a list that may still change); fn f: the f-th def -/
inductive D where
  | non | bl (b : Bool) | int (i : Int) | str (s : Str) | tup (xs : List D) | lst (xs : List D) | ref (n : Nat) | fn (f : Nat)
  deriving Inhabited
abbrev Cell := Option (List D)
abbrev Store := List Cell
abbrev Env := List (Option D)
/-- an outcome: a value and the store; an error (its class, its field, the store); no word -/
inductive Out (α : Type) where
  | ok (a : α) | exc (c : Str) (p : D) (τ : Store) | stuck
def Out.bind {α β : Type} : Out α → (α → Out β) → Out β
  | .ok a, f => f a
  | .exc c p τ, _ => .exc c p τ
  | .stuck, _ => .stuck
inductive Res where
  | nx (ρ : Env) (τ : Store) | bk (ρ : Env) (τ : Store) | ct (ρ : Env) (τ : Store) | rt (d : D) (τ : Store) | exc (c : Str) (p : D) (ρ : Env) (τ : Store) | stuck
@[simp] theorem Out.bind_ok {α β : Type} (a : α) (f : α → Out β) : (Out.ok a).bind f = f a := rfl
@[simp] theorem Out.bind_exc {α β : Type} (c : Str) (p : D) (τ : Store) (f : α → Out β) : (Out.exc c p τ : Out α).bind f = .exc c p τ := rfl
@[simp] theorem Out.bind_stuck {α β : Type} (f : α → Out β) : (Out.stuck : Out α).bind f = .stuck := rfl

inductive BinO where | add | sub | mul | fdiv | mod | pow
  deriving DecidableEq
inductive CmpO where | eq | ne | lt | le | gt | ge | is_ | isnot | in_ | notin
  deriving DecidableEq
/-- built-in classes that isinstance asks for -/
inductive Ty where | int | bool | str | tuple | list
  deriving DecidableEq
inductive Blt where
  | len | abs | int | tuple | list | sum | all | any | sorted | min | max
  deriving DecidableEq
/-- a cell's own changes, one argument -/
inductive Mut where | append | extend | popAt
  deriving DecidableEq
inductive MTgt where | n (i : Nat) | t (is : List Nat)
  deriving DecidableEq

mutual
inductive MExpr where
  | var (i : Nat)
  | con (d : D)
  | glob (x : Str) (d : D)
  | bin (o : BinO) (a b : MExpr)
  | neg (a : MExpr)
  | cmp (o : CmpO) (a b : MExpr)
  | cmp2 (o p : CmpO) (a b c : MExpr)
  | band (xs : MArgs)
  | bor (xs : MArgs)
  | bnot (a : MExpr)
  | ite (t a b : MExpr)
  | idx (a i : MExpr)
  | slice (a : MExpr) (lo hi : MOpt)
  | tup (xs : MArgs)
  | lst (xs : MArgs)
  | alloc (e : MExpr)
  | lc (elt : MExpr) (tg : MTgt) (it : MIter) (ifs : MOpt) (own : List (Str × Nat))
  | call (f : Nat) (xs : MArgs)
  | blt (b : Blt) (a : MExpr)
  | isi (a : MExpr) (ts : List Ty)
  | mut (m : Mut) (a b : MExpr)
  | count (a b : MExpr)
  | cmp3 (o p q : CmpO) (a b c d : MExpr)
  | lenset (a : MExpr)
  | sortR (a : MExpr)
  | lrange (tp : Bool) (a : MExpr)
  | lrange2 (tp : Bool) (a b : MExpr)
  | lzip (a b : MExpr)
  | mm2 (mx : Bool) (a b : MExpr)
  | rep (a : MExpr) (k : Int)
  | callv (i : Nat) (xs : MArgs)
  | lc2 (elt : MExpr) (tg : MTgt) (it : MIter) (ifs : MOpt) (tg1 : MTgt) (it1 : MIter) (ifs1 : MOpt) (own : List (Str × Nat)) (vs1 : List Nat)
inductive MArgs where
  | nil
  | cons (a : MExpr) (r : MArgs)
inductive MOpt where
  | none
  | some (e : MExpr)
inductive MIter where
  | over (e : MExpr)
  | range1 (a : MExpr)
  | range2 (a b : MExpr)
  | range3 (a b c : MExpr)
  | zip (a b : MExpr)
  | enum (a : MExpr)
end

inductive MStmt where
  | asg (tg : MTgt) (e : MExpr)
  | setidx (a i e : MExpr)
  | expr (e : MExpr)
  | ret (e : MExpr)
  | retv (i : Nat)
  | retN
  | ite (t : MExpr) (a b : List MStmt)
  | loop (tg : MTgt) (it : MIter) (body : List MStmt)
  | while (t : MExpr) (body : List MStmt)
  | brk | cnt | pass
  | raise (c : Str)
  | freeze (i : Nat)
  | forget (i : Nat)

structure Def where
  name : Str
  N : List Str
  np : Nat
  fresh : Bool
  body : List MStmt

/-! ### operations on data -/
/-- a list's cell read -/
def hd (τ : Store) : D → D
  | .ref n => (match τ[n]? with
    | some (some xs) => .lst xs
    | _ => .ref n)
  | d => d
def small (i : Int) : Bool := decide (-(2 ^ 64) < i) && decide (i < 2 ^ 64)
def bigI (i : Int) : Bool := decide (-(2 ^ 62) ≤ i) && decide (i < 2 ^ 62)
def binF : BinO → D → D → Option D
  | .add, .int a, .int b => some (.int (a + b))
  | .add, .tup a, .tup b => if a.length + b.length ≤ 1000000 then some (.tup (a ++ b)) else none
  | .add, .lst a, .lst b => if a.length + b.length ≤ 1000000 then some (.lst (a ++ b)) else none
  | .sub, .int a, .int b => some (.int (a - b))
  | .mul, .int a, .int b => if small a || small b then some (.int (a * b)) else none
  | .fdiv, .int a, .int b => if b ≠ 0 ∧ b.natAbs < 1073741824 then some (.int (a.fdiv b)) else none
  | .mod, .int a, .int b => if b ≠ 0 then some (.int (a.fmod b)) else none
  | .pow, .int a, .int b => if 0 ≤ b ∧ b ≤ 1000 ∧ a.natAbs < 2 ^ 64 then some (.int (a ^ b.toNat)) else none
  | _, _, _ => none
mutual
/-- as the model's data, where it has no cell in it -/
def py : D → Option PyData
  | .non => some .none
  | .bl b => some (.bool b)
  | .int i => some (.int i)
  | .str s => some (.str s)
  | .tup xs => (pyL xs).map .tuple
  | .lst xs => (pyL xs).map .list
  | .ref _ => none
  | .fn _ => none
def pyL : List D → Option (List PyData)
  | [] => some []
  | x :: xs => (py x).bind fun a => (pyL xs).bind fun r => some (a :: r)
end
def peq (a b : D) : Option Bool := (py a).bind fun x => (py b).bind fun y => if SeqAt.shaped x = true ∧ SeqAt.shaped y = true then some (PyData.eqv x y) else none
/-- data in order -/
def isPN : PyData → Bool
  | .none => true
  | _ => false
def okLt (x y : PyData) : Bool := PySem.W.alike x y && !isPN x && decide (Nat.min x.depth y.depth ≤ 60)
def dcmp (k : PyData → PyData → Bool) (a b : D) : Option Bool := (py a).bind fun x => (py b).bind fun y => if okLt x y = true then some (k x y) else none
def inF (a : D) : D → Option Bool
  | .lst ys => (py a).bind fun x => (pyL ys).bind fun zs => if SeqAt.shaped x = true ∧ SeqAt.shaped (.list zs) = true then some (zs.any fun z => PyData.eqv z x) else none
  | .tup ys => (py a).bind fun x => (pyL ys).bind fun zs => if SeqAt.shaped x = true ∧ SeqAt.shaped (.tuple zs) = true then some (zs.any fun z => PyData.eqv z x) else none
  | _ => none
def isNon : D → Bool
  | .non => true
  | _ => false
def cmpF : CmpO → D → D → Option Bool
  | .eq, a, b => peq a b
  | .ne, a, b => (peq a b).map not
  | .lt, .int a, .int b => some (decide (a < b))
  | .le, .int a, .int b => some (decide (a ≤ b))
  | .gt, .int a, .int b => some (decide (b < a))
  | .ge, .int a, .int b => some (decide (b ≤ a))
  | .lt, a, b => dcmp (fun x y => PySem.W.dataLt x y) a b
  | .le, a, b => dcmp (fun x y => !PySem.W.dataLt y x) a b
  | .gt, a, b => dcmp (fun x y => PySem.W.dataLt y x) a b
  | .ge, a, b => dcmp (fun x y => !PySem.W.dataLt x y) a b
  | .in_, a, b => inF a b
  | .notin, a, b => (inF a b).map not
  | .is_, a, .non => some (isNon a)
  | .is_, .bl a, .bl b => some (a == b)
  | .isnot, a, .non => some (!isNon a)
  | .isnot, .bl a, .bl b => some (a != b)
  | _, _, _ => none
def tru : D → Option Bool
  | .non => some false
  | .bl b => some b
  | .int i => some (i != 0)
  | .tup xs => some (!xs.isEmpty)
  | .lst xs => some (!xs.isEmpty)
  | _ => none
def idxF : D → D → Option D
  | .tup xs, .int i => atI xs i
  | .lst xs, .int i => atI xs i
  | _, _ => none
def cutD (xs : List D) (lo hi : Option Int) : List D := (xs.drop (HT.sIx xs.length 0 lo)).take (HT.sIx xs.length xs.length hi - HT.sIx xs.length 0 lo)
def sliceF (lo hi : Option Int) : D → Option D
  | .tup xs => some (.tup (cutD xs lo hi))
  | .lst xs => some (.lst (cutD xs lo hi))
  | _ => none
def isTy : D → Ty → Option Bool
  | .non, _ => some false
  | .bl _, .int => some true
  | .bl _, .bool => some true
  | .bl _, _ => some false
  | .int _, .int => some true
  | .int _, _ => some false
  | .str _, .str => some true
  | .str _, _ => some false
  | .tup _, .tuple => some true
  | .tup _, _ => some false
  | .lst _, .list => some true
  | .lst _, _ => some false
  | _, _ => none
def isTys (d : D) : List Ty → Option Bool
  | [] => some false
  | t :: ts => (isTy d t).bind fun a => (isTys d ts).bind fun b => some (a || b)
def ints? : List D → Option (List Int)
  | [] => some []
  | .int i :: r => (ints? r).map (i :: ·)
  | _ :: _ => none
def bls? : List D → Option (List Bool)
  | [] => some []
  | .bl b :: r => (bls? r).map (b :: ·)
  | _ :: _ => none
def insI (i : Int) : List Int → List Int
  | [] => [i]
  | j :: r => if i ≤ j then i :: j :: r else j :: insI i r
def sortI : List Int → List Int
  | [] => []
  | i :: r => insI i (sortI r)
/-- back from the model's data -/
def dOf : PyData → D
  | .none => .non
  | .bool b => .bl b
  | .int i => .int i
  | .str s => .str s
  | .tuple xs => .tup (dOfL xs)
  | .list xs => .lst (dOfL xs)
  | _ => .non
where dOfL : List PyData → List D
  | [] => []
  | x :: xs => dOf x :: dOfL xs
def okAll (ps : List PyData) : Bool := ps.all (fun x => ps.all fun y => PySem.W.alike x y) && ps.all (fun x => !isPN x) && decide (PyData.depthAll ps ≤ 60)
def notLst : D → Option D
  | .lst _ => none
  | d => some d
def minF (k : PyData → List PyData → PyData) (xs : List D) : Option D := (pyL xs).bind fun ps => (match ps with
  | [] => none
  | p :: qs => if okAll (p :: qs) = true then notLst (dOf (k p qs)) else none)
def isTupC : PyData → Bool
  | .tuple (_ :: _) => true
  | _ => false
def isTupA : PyData → Bool
  | .tuple _ => true
  | _ => false
def sortable (ps : List PyData) : Bool := ps.all isTupC || ps.all fun p => !isTupA p
def sortF (rev : Bool) (xs : List D) : Option D := (pyL xs).bind fun ps => if okAll ps = true ∧ sortable ps = true then some (.lst ((ps.mergeSort (PySem.W.dataLe rev id)).map dOf)) else none
def dedupI : List Int → List Int
  | [] => []
  | i :: r => if i ∈ r then dedupI r else i :: dedupI r
def lensetF (d : D) : Option D := (match d with
  | .lst xs => ints? xs
  | .tup xs => ints? xs
  | _ => none).bind fun is => if is.length ≤ 1000 then some (.int (dedupI is).length) else none
def items : D → Option (List D)
  | .tup xs => some xs
  | .lst xs => some xs
  | _ => none
def bltF : Blt → D → Option D
  | .len, .tup xs => some (.int xs.length)
  | .len, .lst xs => some (.int xs.length)
  | .abs, .int i => some (.int (if i < 0 then -i else i))
  | .int, .int i => some (.int i)
  | .int, .bl b => some (.int (if b then 1 else 0))
  | .tuple, .tup xs => some (.tup xs)
  | .tuple, .lst xs => some (.tup xs)
  | .list, .tup xs => some (.lst xs)
  | .list, .lst xs => some (.lst xs)
  | .sum, .lst xs => (ints? xs).map fun is => .int is.sum
  | .all, .lst xs => (bls? xs).map fun bs => .bl (bs.all id)
  | .any, .lst xs => (bls? xs).map fun bs => .bl (bs.any id)
  | .sorted, .lst xs => sortF false xs
  | .sorted, .tup xs => sortF false xs
  | .min, .lst xs => minF PySem.W.minD xs
  | .min, .tup xs => minF PySem.W.minD xs
  | .max, .lst xs => minF PySem.W.maxD xs
  | .max, .tup xs => minF PySem.W.maxD xs
  | _, _ => none
def sortRF : D → Option D
  | .lst xs => sortF true xs
  | .tup xs => sortF true xs
  | _ => none
def countF (a b : D) : Option D := (match a with
  | .lst xs => pyL xs
  | _ => none).bind fun ps => (py b).bind fun p => if PyData.plainAll ps = true ∧ p.plain = true ∧ PyData.depthAll ps ≤ 60 then some (.int (ps.countP fun y => PyData.eqv y p)) else none
def isL : D → Option Unit
  | .lst _ => some ()
  | _ => none
/-! ### cells -/
mutual
def noRef : D → Bool
  | .ref _ => false
  | .tup xs => noRefs xs
  | .lst xs => noRefs xs
  | _ => true
def noRefs : List D → Bool
  | [] => true
  | x :: xs => noRef x && noRefs xs
end
/-- a value leaves a def whose caller knows the first n cells: newer cells become lists -/
def fin (n : Nat) (τ : Store) : D → Option D
  | .ref m => if m < n then some (.ref m) else (match τ[m]? with
    | some (some xs) => if noRefs xs then some (.lst xs) else none
    | _ => none)
  | d => if noRef d then some d else none
/-- something put into cell m: a caller's cell takes no cell -/
def mayPut (base m : Nat) (d : D) : Bool := decide (base ≤ m) || noRef d
def setTgt (ρ : Env) : MTgt → D → Option Env
  | .n i, d => some (ρ.set i (some d))
  | .t is, .tup xs => if xs.length = is.length then some ((is.zip xs).foldl (fun ρ p => ρ.set p.1 (some p.2)) ρ) else none
  | _, _ => none
def wipeE (ρ : Env) : List Nat → Env
  | [] => ρ
  | v :: vs => (wipeE ρ vs).set v none
/-- the cell that a walk watches, as it was -/
def same (τ τ' : Store) : Option Nat → Prop
  | none => True
  | some n => τ'[n]? = τ[n]?
def watch : D → Option Nat
  | .ref n => some n
  | _ => none
def intRange (a b : Int) : List D := (List.range (b - a).toNat).map fun (i : Nat) => .int (a + (i : Int))
/-- a range with a step -/
def rg3 (i j c : Int) : Bool := decide (c ≠ 0) && decide (c.natAbs < 1073741824) && Builtin.Range.small i j c && decide (0 ≤ Builtin.Range.rangeSize i j c) && decide (Builtin.Range.rangeSize i j c ≤ 1000000)
def intRange3 (i j c : Int) : List D := (List.range (Builtin.Range.rangeSize i j c).toNat).map fun (k : Nat) => .int (i + (k : Int) * c)
def zipD (xs ys : List D) : List D := (xs.zip ys).map fun p => .tup [p.1, p.2]
def zipF : D → D → Option (List D)
  | .tup xs, .tup ys => if xs.length ≤ 1000000 then some (zipD xs ys) else none
  | .lst xs, .lst ys => if xs.length ≤ 1000000 then some (zipD xs ys) else none
  | _, _ => none
def enumD (k : Nat) : List D → List D
  | [] => []
  | x :: xs => .tup [.int k, x] :: enumD (k + 1) xs
def seqD (tp : Bool) (xs : List D) : D := if tp = true then .tup xs else .lst xs
/-- a change's argument: extend reads a cell -/
def mutArg (m : Mut) (τ : Store) (d : D) : D := if m = .extend then hd τ d else d

/-- a cell's change: its new items, what is told -/
def mutF (base n : Nat) (xs : List D) (y : D) : Mut → Option (List D × D)
  | .append => if xs.length < 1000000 ∧ mayPut base n y = true then some (xs ++ [y], .non) else none
  | .extend => (match y with
    | .lst zs => if xs.length + zs.length ≤ 1000000 ∧ zs.all (mayPut base n) = true then some (xs ++ zs, .non) else none
    | _ => none)
  | .popAt => (match y with
    | .int i => if bigI i = true then (seqIndex? i xs.length).bind fun k => (xs[k]?).bind fun d => some (xs.eraseIdx k, d) else none
    | _ => none)
/-- a cell's items, where it is alive -/
def cellGet (τ : Store) (n : Nat) : Option (List D) := (match τ[n]? with
  | some (some xs) => some xs
  | _ => none)
/-- the living cell that a value names -/
def cellOf (τ : Store) : D → Option Nat
  | .ref n => (cellGet τ n).map fun _ => n
  | _ => none
abbrev Calls := Nat → List D → Store → Out (D × Store)
open Classical in
/-- the turns of a comprehension -/
noncomputable def lcLoop (w : Option Nat) (g : D → Store → Out (Option D × Store)) : List D → Store → Out (List D × Store)
  | [], τ => .ok ([], τ)
  | x :: xs, τ => (g x τ).bind fun r => if same τ r.2 w then (lcLoop w g xs r.2).bind fun q => .ok ((match r.1 with | some d => d :: q.1 | none => q.1), q.2) else .stuck
noncomputable def lcOut (w : Option Nat) (g : D → Store → Out (Option D × Store)) (xs : List D) (τ : Store) : Out (D × Store) := (match lcLoop w g xs τ with
  | .ok r => .ok (.lst r.1, r.2)
  | _ => .stuck)
open Classical in
/-- the turns of a comprehension of two clauses -/
noncomputable def lcLoop2 (w : Option Nat) (g : D → Store → Out (List D × Store)) : List D → Store → Out (List D × Store)
  | [], τ => .ok ([], τ)
  | x :: xs, τ => (g x τ).bind fun r => if same τ r.2 w then (lcLoop2 w g xs r.2).bind fun q => .ok (r.1 ++ q.1, q.2) else .stuck
noncomputable def lcOut2 (w : Option Nat) (g : D → Store → Out (List D × Store)) (xs : List D) (τ : Store) : Out (D × Store) := (match lcLoop2 w g xs τ with
  | .ok r => if r.1.length ≤ 1000000 then .ok (.lst r.1, r.2) else .stuck
  | _ => .stuck)
def ofO {α : Type} : Option α → Out α
  | some a => .ok a
  | none => .stuck
@[simp] theorem ofO_some {α : Type} (a : α) : ofO (some a) = .ok a := rfl
@[simp] theorem ofO_none {α : Type} : (ofO none : Out α) = .stuck := rfl

/-- one turn -/
def lcTurn (ρ : Env) (tg : MTgt) (c : Env → Store → Out (Bool × Store)) (e : Env → Store → Out (D × Store)) (d : D) (τ : Store) : Out (Option D × Store) :=
  (ofO (setTgt ρ tg d)).bind fun ρ1 => (c ρ1 τ).bind fun k => if k.1 = true then (e ρ1 k.2).bind fun y => .ok (some y.1, y.2) else .ok (none, k.2)
def lcTurn2 (ρ : Env) (tg : MTgt) (c : Env → Store → Out (Bool × Store)) (e : Env → Store → Out (List D × Store)) (d : D) (τ : Store) : Out (List D × Store) :=
  (ofO (setTgt ρ tg d)).bind fun ρ1 => (c ρ1 τ).bind fun k => if k.1 = true then e ρ1 k.2 else .ok ([], k.2)
mutual
noncomputable def E (cl : Calls) (base : Nat) : MExpr → Env → Store → Out (D × Store)
  | .var i, ρ, τ => (match ρ[i]? with
    | some (some d) => .ok (d, τ)
    | _ => .stuck)
  | .con d, _, τ => .ok (d, τ)
  | .glob _ d, _, τ => .ok (d, τ)
  | .bin o a b, ρ, τ => (E cl base a ρ τ).bind fun x => (E cl base b ρ x.2).bind fun y => (ofO (binF o (hd y.2 x.1) (hd y.2 y.1))).bind fun d => .ok (d, y.2)
  | .neg a, ρ, τ => (E cl base a ρ τ).bind fun x => (match x.1 with
    | .int i => .ok (.int (-i), x.2)
    | _ => .stuck)
  | .cmp o a b, ρ, τ => (E cl base a ρ τ).bind fun x => (E cl base b ρ x.2).bind fun y => (ofO (cmpF o (hd y.2 x.1) (hd y.2 y.1))).bind fun d => .ok (.bl d, y.2)
  | .cmp2 o p a b c, ρ, τ => (E cl base a ρ τ).bind fun x => (E cl base b ρ x.2).bind fun y => (ofO (cmpF o (hd y.2 x.1) (hd y.2 y.1))).bind fun d =>
      if d = true then (E cl base c ρ y.2).bind fun z => (ofO (cmpF p (hd z.2 y.1) (hd z.2 z.1))).bind fun d' => .ok (.bl d', z.2) else .ok (.bl false, y.2)
  | .band xs, ρ, τ => EAnd cl base xs ρ τ
  | .bor xs, ρ, τ => EOr cl base xs ρ τ
  | .bnot a, ρ, τ => (E cl base a ρ τ).bind fun x => (ofO (tru (hd x.2 x.1))).bind fun k => .ok (.bl (!k), x.2)
  | .ite t a b, ρ, τ => (E cl base t ρ τ).bind fun x => (ofO (tru (hd x.2 x.1))).bind fun k => if k = true then E cl base a ρ x.2 else E cl base b ρ x.2
  | .idx a i, ρ, τ => (E cl base a ρ τ).bind fun x => (E cl base i ρ x.2).bind fun y => (ofO (idxF (hd y.2 x.1) y.1)).bind fun d => .ok (d, y.2)
  | .slice a lo hi, ρ, τ => (E cl base a ρ τ).bind fun x => (EO cl base lo ρ x.2).bind fun l => (EO cl base hi ρ l.2).bind fun h => (ofO (sliceF l.1 h.1 (hd h.2 x.1))).bind fun d => .ok (d, h.2)
  | .tup xs, ρ, τ => (EA cl base xs ρ τ).bind fun r => if r.1.length ≤ 1000000 then .ok (.tup r.1, r.2) else .stuck
  | .lst xs, ρ, τ => (EA cl base xs ρ τ).bind fun r => if r.1.length ≤ 1000000 then .ok (.lst r.1, r.2) else .stuck
  | .alloc e, ρ, τ => (E cl base e ρ τ).bind fun x => (match x.1 with
    | .lst xs => .ok (.ref x.2.length, x.2 ++ [some xs])
    | _ => .stuck)
  | .lc elt tg it ifs own, ρ, τ => (EI cl base it ρ τ).bind fun s => lcOut s.1.2 (fun d τ1 => lcTurn (wipeE ρ (own.map (·.2))) tg (EC cl base ifs) (E cl base elt) d τ1) s.1.1 s.2
  | .call f xs, ρ, τ => (EA cl base xs ρ τ).bind fun r => cl f r.1 r.2
  | .blt b a, ρ, τ => (E cl base a ρ τ).bind fun x => (ofO (bltF b (hd x.2 x.1))).bind fun d => .ok (d, x.2)
  | .isi a ts, ρ, τ => (E cl base a ρ τ).bind fun x => (ofO (isTys (hd x.2 x.1) ts)).bind fun k => .ok (.bl k, x.2)
  | .mut m a b, ρ, τ => (E cl base a ρ τ).bind fun x => (ofO (cellOf x.2 x.1)).bind fun n => (E cl base b ρ x.2).bind fun y => (ofO (cellGet y.2 n)).bind fun xs =>
      (ofO (mutF base n xs (mutArg m y.2 y.1) m)).bind fun r => .ok (r.2, y.2.set n (some r.1))
  | .count a b, ρ, τ => (E cl base a ρ τ).bind fun x => (ofO (isL (hd x.2 x.1))).bind fun _ => (E cl base b ρ x.2).bind fun y => (ofO (countF (hd y.2 x.1) y.1)).bind fun d => .ok (d, y.2)
  | .cmp3 o p q a b c d, ρ, τ => (E cl base a ρ τ).bind fun x => (E cl base b ρ x.2).bind fun y => (ofO (cmpF o (hd y.2 x.1) (hd y.2 y.1))).bind fun k =>
      if k = true then (E cl base c ρ y.2).bind fun z => (ofO (cmpF p (hd z.2 y.1) (hd z.2 z.1))).bind fun k' =>
        if k' = true then (E cl base d ρ z.2).bind fun u => (ofO (cmpF q (hd u.2 z.1) (hd u.2 u.1))).bind fun k'' => .ok (.bl k'', u.2) else .ok (.bl false, z.2)
      else .ok (.bl false, y.2)
  | .lenset a, ρ, τ => (E cl base a ρ τ).bind fun x => (ofO (lensetF (hd x.2 x.1))).bind fun d => .ok (d, x.2)
  | .sortR a, ρ, τ => (E cl base a ρ τ).bind fun x => (ofO (sortRF (hd x.2 x.1))).bind fun d => .ok (d, x.2)
  | .lrange tp a, ρ, τ => (E cl base a ρ τ).bind fun x => (match x.1 with
    | .int j => if bigI j = true ∧ j ≤ 1000000 then .ok (seqD tp (intRange 0 j), x.2) else .stuck
    | _ => .stuck)
  | .lrange2 tp a b, ρ, τ => (E cl base a ρ τ).bind fun x => (E cl base b ρ x.2).bind fun y => (match x.1, y.1 with
    | .int i, .int j => if bigI i = true ∧ bigI j = true ∧ j - i ≤ 1000000 then .ok (seqD tp (intRange i j), y.2) else .stuck
    | _, _ => .stuck)
  | .lzip a b, ρ, τ => (E cl base a ρ τ).bind fun x => (E cl base b ρ x.2).bind fun y => (ofO (zipF x.1 y.1)).bind fun zs => .ok (.lst zs, y.2)
  | .mm2 mx a b, ρ, τ => (E cl base a ρ τ).bind fun x => (E cl base b ρ x.2).bind fun y => (match x.1, y.1 with
    | .int i, .int j => .ok (.int (if mx = true then (if j > i then j else i) else if j < i then j else i), y.2)
    | _, _ => .stuck)
  | .rep a k, ρ, τ => (E cl base a ρ τ).bind fun x => (match x.1 with
    | .lst xs => if bigI k = true ∧ xs.length * k.toNat ≤ 1000000 then .ok (.lst (List.replicate k.toNat xs).flatten, x.2) else .stuck
    | _ => .stuck)
  | .callv i xs, ρ, τ => (match ρ[i]? with
    | some (some (.fn f)) => (match EA cl base xs ρ τ with
      | .ok r => cl f r.1 r.2
      | _ => .stuck)
    | _ => .stuck)
  | .lc2 elt tg it ifs tg1 it1 ifs1 own vs1, ρ, τ => (EI cl base it ρ τ).bind fun s => lcOut2 s.1.2 (fun d τ1 => lcTurn2 (wipeE ρ (own.map (·.2))) tg (EC cl base ifs) (fun ρ2 τ2 =>
      (EI cl base it1 ρ2 τ2).bind fun s1 => lcLoop s1.1.2 (fun d τ3 => lcTurn (wipeE ρ2 vs1) tg1 (EC cl base ifs1) (E cl base elt) d τ3) s1.1.1 s1.2) d τ1) s.1.1 s.2
noncomputable def EA (cl : Calls) (base : Nat) : MArgs → Env → Store → Out (List D × Store)
  | .nil, _, τ => .ok ([], τ)
  | .cons a r, ρ, τ => (E cl base a ρ τ).bind fun x => (EA cl base r ρ x.2).bind fun q => .ok (x.1 :: q.1, q.2)
noncomputable def EAnd (cl : Calls) (base : Nat) : MArgs → Env → Store → Out (D × Store)
  | .nil, _, _ => .stuck
  | .cons a .nil, ρ, τ => E cl base a ρ τ
  | .cons a r, ρ, τ => (E cl base a ρ τ).bind fun x => (ofO (tru (hd x.2 x.1))).bind fun k => if k = true then EAnd cl base r ρ x.2 else .ok x
noncomputable def EOr (cl : Calls) (base : Nat) : MArgs → Env → Store → Out (D × Store)
  | .nil, _, _ => .stuck
  | .cons a .nil, ρ, τ => E cl base a ρ τ
  | .cons a r, ρ, τ => (E cl base a ρ τ).bind fun x => (ofO (tru (hd x.2 x.1))).bind fun k => if k = true then .ok x else EOr cl base r ρ x.2
/-- an optional part of a slice -/
noncomputable def EO (cl : Calls) (base : Nat) : MOpt → Env → Store → Out (Option Int × Store)
  | .none, _, τ => .ok (none, τ)
  | .some e, ρ, τ => (E cl base e ρ τ).bind fun x => (match x.1 with
    | .int i => .ok (some i, x.2)
    | _ => .stuck)
/-- a comprehension's test -/
noncomputable def EC (cl : Calls) (base : Nat) : MOpt → Env → Store → Out (Bool × Store)
  | .none, _, τ => .ok (true, τ)
  | .some e, ρ, τ => (E cl base e ρ τ).bind fun x => (ofO (tru (hd x.2 x.1))).bind fun k => .ok (k, x.2)
/-- what is walked: its items, the cell that is watched, the store -/
noncomputable def EI (cl : Calls) (base : Nat) : MIter → Env → Store → Out ((List D × Option Nat) × Store)
  | .over e, ρ, τ => (E cl base e ρ τ).bind fun x => (ofO (items (hd x.2 x.1))).bind fun xs => .ok ((xs, watch x.1), x.2)
  | .range1 a, ρ, τ => (E cl base a ρ τ).bind fun x => (match x.1 with
    | .int j => if bigI j = true ∧ j ≤ 1000000 then .ok ((intRange 0 j, none), x.2) else .stuck
    | _ => .stuck)
  | .range2 a b, ρ, τ => (E cl base a ρ τ).bind fun x => (E cl base b ρ x.2).bind fun y => (match x.1, y.1 with
    | .int i, .int j => if bigI i = true ∧ bigI j = true ∧ j - i ≤ 1000000 then .ok ((intRange i j, none), y.2) else .stuck
    | _, _ => .stuck)
  | .range3 a b c, ρ, τ => (E cl base a ρ τ).bind fun x => (E cl base b ρ x.2).bind fun y => (E cl base c ρ y.2).bind fun z => (match x.1, y.1, z.1 with
    | .int i, .int j, .int c => if rg3 i j c = true then .ok ((intRange3 i j c, none), z.2) else .stuck
    | _, _, _ => .stuck)
  | .zip a b, ρ, τ => (E cl base a ρ τ).bind fun x => (E cl base b ρ x.2).bind fun y => (ofO (zipF x.1 y.1)).bind fun zs => .ok ((zs, none), y.2)
  | .enum a, ρ, τ => (E cl base a ρ τ).bind fun x => (ofO (items (hd x.2 x.1))).bind fun xs => .ok ((enumD 0 xs, watch x.1), x.2)
end
/-! ### statements -/
open Classical in
noncomputable def forLoop (w : Option Nat) (f : D → Env → Store → Res) : List D → Env → Store → Res
  | [], ρ, τ => .nx ρ τ
  | x :: xs, ρ, τ => (match f x ρ τ with
    | .nx ρ' τ' => if same τ τ' w then forLoop w f xs ρ' τ' else .stuck
    | .ct ρ' τ' => if same τ τ' w then forLoop w f xs ρ' τ' else .stuck
    | .bk ρ' τ' => .nx ρ' τ'
    | r => r)
def whileLoop (t : Env → Store → Out (Bool × Store)) (f : Env → Store → Res) : Nat → Env → Store → Res
  | 0, _, _ => .stuck
  | n + 1, ρ, τ => (match t ρ τ with
    | .ok (true, τ1) => (match f ρ τ1 with
      | .nx ρ' τ' => whileLoop t f n ρ' τ'
      | .ct ρ' τ' => whileLoop t f n ρ' τ'
      | .bk ρ' τ' => .nx ρ' τ'
      | r => r)
    | .ok (false, τ1) => .nx ρ τ1
    | .exc c p τ' => .exc c p ρ τ'
    | .stuck => .stuck)
def Res.seq : Res → (Env → Store → Res) → Res
  | .nx ρ τ, f => f ρ τ
  | r, _ => r
def Out.to {α : Type} (o : Out (α × Store)) (ρ : Env) (f : α → Store → Res) : Res := match o with
  | .ok (a, τ) => f a τ
  | .exc c p τ => .exc c p ρ τ
  | .stuck => .stuck
@[simp] theorem Out.to_ok {α : Type} (a : α) (τ : Store) (ρ : Env) (f : α → Store → Res) : (Out.ok (a, τ)).to ρ f = f a τ := rfl
@[simp] theorem Out.to_exc {α : Type} (c : Str) (p : D) (τ : Store) (ρ : Env) (f : α → Store → Res) : (Out.exc c p τ : Out (α × Store)).to ρ f = .exc c p ρ τ := rfl
@[simp] theorem Out.to_stuck {α : Type} (ρ : Env) (f : α → Store → Res) : (Out.stuck : Out (α × Store)).to ρ f = .stuck := rfl
@[simp] theorem Res.seq_nx (ρ : Env) (τ : Store) (f : Env → Store → Res) : (Res.nx ρ τ).seq f = f ρ τ := rfl
@[simp] theorem Res.seq_rt (d : D) (τ : Store) (f : Env → Store → Res) : (Res.rt d τ).seq f = .rt d τ := rfl
@[simp] theorem Res.seq_exc (c : Str) (p : D) (ρ : Env) (τ : Store) (f : Env → Store → Res) : (Res.exc c p ρ τ).seq f = .exc c p ρ τ := rfl
@[simp] theorem Res.seq_bk (ρ : Env) (τ : Store) (f : Env → Store → Res) : (Res.bk ρ τ).seq f = .bk ρ τ := rfl
@[simp] theorem Res.seq_ct (ρ : Env) (τ : Store) (f : Env → Store → Res) : (Res.ct ρ τ).seq f = .ct ρ τ := rfl
@[simp] theorem Res.seq_stuck (f : Env → Store → Res) : (Res.stuck).seq f = .stuck := rfl
def Out.to' {α : Type} (o : Out α) (ρ : Env) (f : α → Res) : Res := match o with
  | .ok a => f a
  | .exc c p τ => .exc c p ρ τ
  | .stuck => .stuck
@[simp] theorem Out.to'_ok {α : Type} (a : α) (ρ : Env) (f : α → Res) : (Out.ok a).to' ρ f = f a := rfl
@[simp] theorem Out.to'_exc {α : Type} (c : Str) (p : D) (τ : Store) (ρ : Env) (f : α → Res) : (Out.exc c p τ : Out α).to' ρ f = .exc c p ρ τ := rfl
@[simp] theorem Out.to'_stuck {α : Type} (ρ : Env) (f : α → Res) : (Out.stuck : Out α).to' ρ f = .stuck := rfl
/-- x[y] = d -/
def setIdx (base : Nat) (x y d : D) (τ : Store) : Option Store := match x, y with
  | .ref n, .int i => (cellGet τ n).bind fun xs => (ixN xs.length i).bind fun j => if mayPut base n d = true then some (τ.set n (some (xs.set j d))) else none
  | _, _ => none
mutual
noncomputable def S (cl : Calls) (base : Nat) : MStmt → Env → Store → Res
  | .asg tg e, ρ, τ => (E cl base e ρ τ).to ρ fun d τ1 => (match setTgt ρ tg d with
    | some ρ' => .nx ρ' τ1
    | none => .stuck)
  | .setidx a i e, ρ, τ => (E cl base e ρ τ).to ρ fun d τ1 => (E cl base a ρ τ1).to ρ fun x τ2 => (E cl base i ρ τ2).to ρ fun y τ3 => (match setIdx base x y d τ3 with
    | some τ4 => .nx ρ τ4
    | none => .stuck)
  | .expr e, ρ, τ => (E cl base e ρ τ).to ρ fun _ τ1 => .nx ρ τ1
  | .ret e, ρ, τ => (E cl base e ρ τ).to ρ fun d τ1 => .rt d τ1
  | .retv i, ρ, τ => (match ρ[i]? with
    | some (some (.ref n)) => .rt (.ref n) τ
    | _ => .stuck)
  | .retN, _, τ => .rt .non τ
  | .ite t a b, ρ, τ => (E cl base t ρ τ).to ρ fun x τ1 => (match tru (hd τ1 x) with
    | some true => SL cl base a ρ τ1
    | some false => SL cl base b ρ τ1
    | none => .stuck)
  | .loop tg it body, ρ, τ => (EI cl base it ρ τ).to ρ fun s τ' => forLoop s.2 (fun d ρ1 τ1 => (match setTgt ρ1 tg d with
    | some ρ2 => SL cl base body ρ2 τ1
    | none => .stuck)) s.1 ρ τ'
  | .while t body, ρ, τ => whileLoop (fun ρ1 τ1 => (E cl base t ρ1 τ1).bind fun x => (ofO (tru (hd x.2 x.1))).bind fun k => .ok (k, x.2)) (SL cl base body) 100000 ρ τ
  | .brk, ρ, τ => .bk ρ τ
  | .cnt, ρ, τ => .ct ρ τ
  | .pass, ρ, τ => .nx ρ τ
  | .raise c, ρ, τ => .exc c .non ρ τ
  | .freeze i, ρ, τ => (match ρ[i]? with
    | some (some (.ref n)) => (match τ[n]? with
      | some (some xs) => if base ≤ n then .nx (ρ.set i (some (.lst xs))) (τ.set n none) else .stuck
      | _ => .stuck)
    | _ => .stuck)
  | .forget i, ρ, τ => .nx (ρ.set i none) τ
noncomputable def SL (cl : Calls) (base : Nat) : List MStmt → Env → Store → Res
  | [], ρ, τ => .nx ρ τ
  | s :: r, ρ, τ => (S cl base s ρ τ).seq (SL cl base r)
end
def startE (N : List Str) (ds : List D) : Env := ds.map some ++ List.replicate (N.length - ds.length) none
noncomputable def runDef (cl : Calls) (df : Def) (ds : List D) (τ : Store) : Out (D × Store) :=
  if ds.length = df.np then (match SL cl τ.length df.body (startE df.N ds) τ with
    | .rt d τ' => (match fin τ.length τ' d with
      | some d' => .ok (d', τ'.take τ.length)
      | none => .stuck)
    | .nx _ τ' => .ok (.non, τ'.take τ.length)
    | .exc c p _ τ' => if noRef p = true then .exc c p (τ'.take τ.length) else .stuck
    | _ => .stuck)
  else .stuck
noncomputable def call (T : Nat → Option Def) : Nat → Calls
  | 0, _, _, _ => .stuck
  | k + 1, f, ds, τ => (match T f with
    | some df => runDef (call T k) df ds τ
    | none => .stuck)
end M
set_option Elab.async false
set_option linter.all false
set_option maxRecDepth 100000
set_option maxHeartbeats 2000000
/-! How plain data lie in the heap; readings of meanings. -/
namespace M
open PySem PySem.Spec PyProof.Rows L2

/-- what the written part gives: the module's names, the defs' names -/
structure Gx where
  K : PySem.W.Frag
  mg : Str → Option Value
  nm : Nat → Str

mutual
/-- d lies at v; L: addresses that may change (or are another's) -/
def Rep (G : Gx) (L : Addr → Prop) (φ : List Addr) (H : Hp) : D → V → Prop
  | .non, v => v = .non
  | .bl b, v => v = .bl b
  | .int i, v => v = .int i
  | .str s, v => v = .str s
  | .tup xs, v => ∃ a vs, v = .ref a ∧ SqT G.K H a vs ∧ RepL G L φ H xs vs
  | .lst xs, v => ∃ a vs, v = .ref a ∧ ¬ L a ∧ Rd H a (.lst vs) ∧ RepL G L φ H xs vs
  | .ref n, v => ∃ a, φ[n]? = some a ∧ v = .ref a
  | .fn f, v => ∃ a, G.mg (G.nm f) = some (.ref a) ∧ v = .ref a
def RepL (G : Gx) (L : Addr → Prop) (φ : List Addr) (H : Hp) : List D → List V → Prop
  | [], vs => vs = []
  | d :: ds, vs => ∃ v r, vs = v :: r ∧ Rep G L φ H d v ∧ RepL G L φ H ds r
end
def live (φ : List Addr) (τ : Store) (a : Addr) : Prop := ∃ (n : Nat) (xs : List D), τ[n]? = some (some xs) ∧ φ[n]? = some a
/-- live cells, or another's -/
def Lv (φ : List Addr) (τ : Store) (Ex : Addr → Prop) (a : Addr) : Prop := live φ τ a ∨ Ex a
/-- the store lies in the heap -/
structure SR (G : Gx) (Ex : Addr → Prop) (φ : List Addr) (τ : Store) (H : Hp) : Prop where
  len : φ.length = τ.length
  nd : ∀ (i j : Nat) (a : Addr), φ[i]? = some a → φ[j]? = some a → i = j
  cell : ∀ (n : Nat) (xs : List D) (a : Addr), τ[n]? = some (some xs) → φ[n]? = some a → ∃ vs, H a = some (.lst vs) ∧ RepL G (Lv φ τ Ex) φ H xs vs
  dom : ∀ (i : Nat) (a : Addr), φ[i]? = some a → H a ≠ none
  ex : ∀ a, Ex a → H a ≠ none ∧ ∀ (i : Nat), φ[i]? ≠ some a
structure ER (G : Gx) (L : Addr → Prop) (φ : List Addr) (H : Hp) (ρ : Env) (σ : L2.St) : Prop where
  len : ρ.length = σ.length
  val : ∀ (i : Nat) (d : D), ρ[i]? = some (some d) → ∃ v, σ[i]? = some (some v) ∧ Rep G L φ H d v
mutual
/-- every cell named is below n -/
def lt (n : Nat) : D → Prop
  | .ref m => m < n
  | .tup xs => lts n xs
  | .lst xs => lts n xs
  | _ => True
def lts (n : Nat) : List D → Prop
  | [] => True
  | x :: xs => lt n x ∧ lts n xs
end
def Low (base : Nat) (τ : Store) : Prop := ∀ (i : Nat) (xs : List D), i < base → τ[i]? = some (some xs) → lts base xs
/-- the state of a def -/
structure R (G : Gx) (B : Store) (Ex : Addr → Prop) (φ : List Addr) (ρ : Env) (τ : Store) (σ : L2.St) (H : Hp) : Prop where
  sr : SR G Ex φ τ H
  er : ER G (Lv φ τ Ex) φ H ρ σ
  low : ∀ n, n ≤ B.length → Low n B → Low n τ
  bs : B.length ≤ τ.length
/-- what an expression may do to the heap -/
structure Step (φ : List Addr) (τ : Store) (H : Hp) (φ' : List Addr) (τ' : Store) (H' : Hp) : Prop where
  pre : ∃ ψ, φ' = φ ++ ψ
  keep : ∀ a o, H a = some o → ¬ live φ τ a → H' a = some o
  dom : ∀ a, H a ≠ none → H' a ≠ none
  new : ∀ a, live φ' τ' a → live φ τ a ∨ H a = none
section
variable {G : Gx} {Ex : Addr → Prop} {φ φ' φ1 φ2 : List Addr} {τ τ' τ1 τ2 : Store} {H H' H1 H2 : Hp} {L L' : Addr → Prop}
theorem Step.refl : Step φ τ H φ τ H := ⟨⟨[], by simp⟩, fun _ _ h _ => h, fun _ h => h, fun _ h => .inl h⟩
theorem Step.trans (s : Step φ τ H φ1 τ1 H1) (t : Step φ1 τ1 H1 φ2 τ2 H2) : Step φ τ H φ2 τ2 H2 where
  pre := by
    obtain ⟨a, e⟩ := s.pre
    obtain ⟨b, e'⟩ := t.pre
    exact ⟨a ++ b, by rw [e', e, List.append_assoc]⟩
  keep := fun a o h hn => t.keep a o (s.keep a o h hn) fun hl => by
    rcases s.new a hl with h' | h'
    · exact hn h'
    · rw [h] at h'; cases h'
  dom := fun a h => t.dom a (s.dom a h)
  new := fun a h => by
    rcases t.new a h with h' | h'
    · exact s.new a h'
    · refine .inr ?_
      cases e : H a with
      | none => rfl
      | some o => exact absurd h' (s.dom a (by rw [e]; simp))
theorem Step.get (s : Step φ τ H φ' τ' H') {n : Nat} {a : Addr} (h : φ[n]? = some a) : φ'[n]? = some a := by
  obtain ⟨ψ, e⟩ := s.pre
  obtain ⟨hn, he⟩ := List.getElem?_eq_some_iff.mp h
  rw [e, List.getElem?_append_left hn, h]
/-- a frozen thing stays -/
theorem SR.notTup (s : SR G Ex φ τ H) {a : Addr} {vs : List V} (h : Rd H a (.tup vs)) : ¬ live φ τ a := by
  rintro ⟨n, xs, h1, h2⟩
  obtain ⟨ws, h3, _⟩ := s.cell n xs a h1 h2
  rcases h with h | ⟨o, h⟩ <;> rw [h3] at h <;> cases h
theorem Rd.ne {a : Addr} {u : HO} (h : Rd H a u) : H a ≠ none := by
  rcases h with h | ⟨o, h⟩ <;> rw [h] <;> simp
theorem Rd.step {a : Addr} {u : HO} (h : Rd H a u) (k : ∀ o, H a = some o → H' a = some o) : Rd H' a u := by
  rcases h with h | ⟨o, h⟩
  · exact .inl (k _ h)
  · exact .inr ⟨o, k _ h⟩
theorem SqT.step {K : PySem.W.Frag} {a : Addr} {vs : List V} (h : SqT K H a vs) (k : ∀ o, Rd H a (.tup vs) → H a = some o → H' a = some o) : SqT K H' a vs := by
  rcases h with h | h
  · exact .inl (Rd.step h fun o => k o h)
  · exact .inr h
mutual
theorem Rep.gen (kt : ∀ a vs, Rd H a (.tup vs) → Rd H' a (.tup vs)) (kl : ∀ a vs, ¬ L a → Rd H a (.lst vs) → ¬ L' a ∧ Rd H' a (.lst vs)) (kf : ∀ (n : Nat) (a : Addr), φ[n]? = some a → φ'[n]? = some a) :
    ∀ (d : D) (v : V), Rep G L φ H d v → Rep G L' φ' H' d v
  | .non, _, h => by simpa only [Rep] using h
  | .bl _, _, h => by simpa only [Rep] using h
  | .int _, _, h => by simpa only [Rep] using h
  | .str _, _, h => by simpa only [Rep] using h
  | .tup xs, _, h => by
    simp only [Rep] at h ⊢
    obtain ⟨a, vs, e, h1, h2⟩ := h
    refine ⟨a, vs, e, ?_, RepL.gen kt kl kf xs vs h2⟩
    rcases h1 with h1 | h1
    · exact .inl (kt a vs h1)
    · exact .inr h1
  | .lst xs, _, h => by
    simp only [Rep] at h ⊢
    obtain ⟨a, vs, e, h1, h2, h3⟩ := h
    obtain ⟨g1, g2⟩ := kl a vs h1 h2
    exact ⟨a, vs, e, g1, g2, RepL.gen kt kl kf xs vs h3⟩
  | .ref n, _, h => by
    simp only [Rep] at h ⊢
    obtain ⟨a, h1, e⟩ := h
    exact ⟨a, kf n a h1, e⟩
  | .fn f, _, h => by simpa only [Rep] using h
theorem RepL.gen (kt : ∀ a vs, Rd H a (.tup vs) → Rd H' a (.tup vs)) (kl : ∀ a vs, ¬ L a → Rd H a (.lst vs) → ¬ L' a ∧ Rd H' a (.lst vs)) (kf : ∀ (n : Nat) (a : Addr), φ[n]? = some a → φ'[n]? = some a) :
    ∀ (ds : List D) (vs : List V), RepL G L φ H ds vs → RepL G L' φ' H' ds vs
  | [], _, h => by simpa only [RepL] using h
  | d :: ds, _, h => by
    simp only [RepL] at h ⊢
    obtain ⟨v, r, e, h1, h2⟩ := h
    exact ⟨v, r, e, Rep.gen kt kl kf d v h1, RepL.gen kt kl kf ds r h2⟩
end
/-- the three demands, of a step -/
theorem Step.gen3 (s : SR G Ex φ τ H) (t : Step φ τ H φ' τ' H') :
    (∀ a vs, Rd H a (.tup vs) → Rd H' a (.tup vs)) ∧ (∀ a vs, ¬ Lv φ τ Ex a → Rd H a (.lst vs) → ¬ Lv φ' τ' Ex a ∧ Rd H' a (.lst vs)) ∧ (∀ (n : Nat) (a : Addr), φ[n]? = some a → φ'[n]? = some a) := by
  refine ⟨fun a vs h => Rd.step h fun o e => t.keep a o e (s.notTup h), fun a vs hn h => ⟨?_, Rd.step h fun o e => t.keep a o e fun z => hn (.inl z)⟩, fun n a h => t.get h⟩
  rintro (z | z)
  · rcases t.new a z with z | z
    · exact hn (.inl z)
    · exact absurd z (Rd.ne h)
  · exact hn (.inr z)
theorem Rep.step (s : SR G Ex φ τ H) (t : Step φ τ H φ' τ' H') {d : D} {v : V} (h : Rep G (Lv φ τ Ex) φ H d v) : Rep G (Lv φ' τ' Ex) φ' H' d v :=
  let ⟨a, b, c⟩ := Step.gen3 s t
  Rep.gen a b c d v h
theorem RepL.step (s : SR G Ex φ τ H) (t : Step φ τ H φ' τ' H') {ds : List D} {vs : List V} (h : RepL G (Lv φ τ Ex) φ H ds vs) : RepL G (Lv φ' τ' Ex) φ' H' ds vs :=
  let ⟨a, b, c⟩ := Step.gen3 s t
  RepL.gen a b c ds vs h
theorem ER.step {ρ : Env} {σ : L2.St} (s : SR G Ex φ τ H) (t : Step φ τ H φ' τ' H') (h : ER G (Lv φ τ Ex) φ H ρ σ) : ER G (Lv φ' τ' Ex) φ' H' ρ σ :=
  ⟨h.len, fun i d e => let ⟨v, e1, r⟩ := h.val i d e; ⟨v, e1, r.step s t⟩⟩
theorem RepL.length : ∀ {ds : List D} {vs : List V}, RepL G L φ H ds vs → ds.length = vs.length
  | [], _, h => by simp only [RepL] at h; rw [h]; rfl
  | d :: ds, _, h => by
    simp only [RepL] at h
    obtain ⟨v, r, rfl, _, h⟩ := h
    rw [List.length_cons, List.length_cons, RepL.length h]
theorem RepL.get : ∀ {ds : List D} {vs : List V} {i : Nat} {d : D}, RepL G L φ H ds vs → ds[i]? = some d → ∃ v, vs[i]? = some v ∧ Rep G L φ H d v
  | [], _, _, _, _, e => by simp at e
  | d :: ds, _, 0, x, h, e => by
    simp only [RepL] at h
    obtain ⟨v, r, rfl, h1, _⟩ := h
    simp at e; subst e
    exact ⟨v, rfl, h1⟩
  | d :: ds, _, i + 1, x, h, e => by
    simp only [RepL] at h
    obtain ⟨v, r, rfl, _, h⟩ := h
    obtain ⟨w, e1, h1⟩ := RepL.get (i := i) (d := x) h (by simpa using e)
    exact ⟨w, by simpa using e1, h1⟩
theorem RepL.append : ∀ {ds es : List D} {vs ws : List V}, RepL G L φ H ds vs → RepL G L φ H es ws → RepL G L φ H (ds ++ es) (vs ++ ws)
  | [], _, _, _, h, k => by simp only [RepL] at h; subst h; exact k
  | d :: ds, _, _, _, h, k => by
    simp only [RepL, List.cons_append] at h ⊢
    obtain ⟨v, r, rfl, h1, h⟩ := h
    exact ⟨v, _, rfl, h1, RepL.append h k⟩
theorem RepL.one {d : D} {v : V} (h : Rep G L φ H d v) : RepL G L φ H [d] [v] := by
  simp only [RepL]; exact ⟨v, [], rfl, h, rfl⟩
theorem RepL.take : ∀ {ds : List D} {vs : List V} (n : Nat), RepL G L φ H ds vs → RepL G L φ H (ds.take n) (vs.take n)
  | [], _, n, h => by simp only [RepL] at h; subst h; simp [RepL]
  | d :: ds, _, 0, h => by simp [RepL]
  | d :: ds, _, n + 1, h => by
    simp only [RepL] at h
    obtain ⟨v, r, rfl, h1, h⟩ := h
    simp only [List.take_succ_cons, RepL]
    exact ⟨v, _, rfl, h1, RepL.take n h⟩
theorem RepL.drop : ∀ {ds : List D} {vs : List V} (n : Nat), RepL G L φ H ds vs → RepL G L φ H (ds.drop n) (vs.drop n)
  | [], _, n, h => by simp only [RepL] at h; subst h; simp [RepL]
  | d :: ds, _, 0, h => by simpa using h
  | d :: ds, _, n + 1, h => by
    simp only [RepL] at h
    obtain ⟨v, r, rfl, h1, h⟩ := h
    simpa using RepL.drop n h
theorem RepL.set : ∀ {ds : List D} {vs : List V} {d : D} {v : V} (n : Nat), RepL G L φ H ds vs → Rep G L φ H d v → RepL G L φ H (ds.set n d) (vs.set n v)
  | [], _, _, _, n, h, _ => by simp only [RepL] at h; subst h; simp [RepL]
  | x :: ds, _, _, _, 0, h, k => by
    simp only [RepL] at h
    obtain ⟨v, r, rfl, h1, h⟩ := h
    simp only [List.set_cons_zero, RepL]
    exact ⟨_, _, rfl, k, h⟩
  | x :: ds, _, _, _, n + 1, h, k => by
    simp only [RepL] at h
    obtain ⟨v, r, rfl, h1, h⟩ := h
    simp only [List.set_cons_succ, RepL]
    exact ⟨_, _, rfl, h1, RepL.set n h k⟩
mutual
/-- what lies somewhere names cells that are there -/
theorem Rep.lt : ∀ (d : D) (v : V), Rep G L φ H d v → M.lt φ.length d
  | .non, _, _ => by simp only [M.lt]
  | .bl _, _, _ => by simp only [M.lt]
  | .int _, _, _ => by simp only [M.lt]
  | .str _, _, _ => by simp only [M.lt]
  | .tup xs, _, h => by
    simp only [Rep] at h
    obtain ⟨a, vs, _, _, h⟩ := h
    simp only [M.lt]
    exact RepL.lts xs vs h
  | .lst xs, _, h => by
    simp only [Rep] at h
    obtain ⟨a, vs, _, _, _, h⟩ := h
    simp only [M.lt]
    exact RepL.lts xs vs h
  | .ref n, _, h => by
    simp only [Rep] at h
    obtain ⟨a, h, _⟩ := h
    simp only [M.lt]
    exact (List.getElem?_eq_some_iff.mp h).1
  | .fn f, _, _ => by simp only [M.lt]
theorem RepL.lts : ∀ (ds : List D) (vs : List V), RepL G L φ H ds vs → M.lts φ.length ds
  | [], _, _ => by simp only [M.lts]
  | d :: ds, _, h => by
    simp only [RepL] at h
    obtain ⟨v, r, _, h1, h⟩ := h
    simp only [M.lts]
    exact ⟨Rep.lt d v h1, RepL.lts ds r h⟩
end
mutual
theorem Rep.cut {n : Nat} : ∀ (d : D) (v : V), M.lt n d → Rep G L φ H d v → Rep G L (φ.take n) H d v
  | .non, _, _, h => by simpa only [Rep] using h
  | .bl _, _, _, h => by simpa only [Rep] using h
  | .int _, _, _, h => by simpa only [Rep] using h
  | .str _, _, _, h => by simpa only [Rep] using h
  | .tup xs, _, l, h => by
    simp only [Rep, M.lt] at h l ⊢
    obtain ⟨a, vs, e, h1, h2⟩ := h
    exact ⟨a, vs, e, h1, RepL.cut xs vs l h2⟩
  | .lst xs, _, l, h => by
    simp only [Rep, M.lt] at h l ⊢
    obtain ⟨a, vs, e, h1, h2, h3⟩ := h
    exact ⟨a, vs, e, h1, h2, RepL.cut xs vs l h3⟩
  | .ref m, _, l, h => by
    simp only [Rep, M.lt] at h l ⊢
    obtain ⟨a, h1, e⟩ := h
    exact ⟨a, by rw [List.getElem?_take_of_lt l]; exact h1, e⟩
  | .fn f, _, _, h => by simpa only [Rep] using h
theorem RepL.cut {n : Nat} : ∀ (ds : List D) (vs : List V), M.lts n ds → RepL G L φ H ds vs → RepL G L (φ.take n) H ds vs
  | [], _, _, h => by simpa only [RepL] using h
  | d :: ds, _, l, h => by
    simp only [RepL, M.lts] at h l ⊢
    obtain ⟨v, r, e, h1, h2⟩ := h
    exact ⟨v, r, e, Rep.cut d v l.1 h1, RepL.cut ds r l.2 h2⟩
end
mutual
theorem noRef_lt {n : Nat} : ∀ d : D, noRef d = true → M.lt n d
  | .non, _ => by simp only [M.lt]
  | .bl _, _ => by simp only [M.lt]
  | .int _, _ => by simp only [M.lt]
  | .str _, _ => by simp only [M.lt]
  | .tup xs, h => by simp only [M.lt]; exact noRefs_lts xs (by simpa only [noRef] using h)
  | .lst xs, h => by simp only [M.lt]; exact noRefs_lts xs (by simpa only [noRef] using h)
  | .ref m, h => by simp only [noRef] at h; cases h
  | .fn f, _ => by simp only [M.lt]
theorem noRefs_lts {n : Nat} : ∀ ds : List D, noRefs ds = true → M.lts n ds
  | [], _ => by simp only [M.lts]
  | d :: ds, h => by
    simp only [noRefs, Bool.and_eq_true] at h
    simp only [M.lts]
    exact ⟨noRef_lt d h.1, noRefs_lts ds h.2⟩
end
theorem lts_append {n : Nat} : ∀ {xs ys : List D}, M.lts n xs → M.lts n ys → M.lts n (xs ++ ys)
  | [], _, _, h => h
  | x :: xs, _, h, k => by
    simp only [M.lts, List.cons_append] at h ⊢
    exact ⟨h.1, lts_append h.2 k⟩
theorem lts_set {n : Nat} {d : D} : ∀ {xs : List D} (j : Nat), M.lts n xs → M.lt n d → M.lts n (xs.set j d)
  | [], _, _, _ => by simp [M.lts]
  | x :: xs, 0, h, k => by
    simp only [M.lts, List.set_cons_zero] at h ⊢
    exact ⟨k, h.2⟩
  | x :: xs, j + 1, h, k => by
    simp only [M.lts, List.set_cons_succ] at h ⊢
    exact ⟨h.1, lts_set j h.2 k⟩
end
end M
set_option Elab.async false
set_option linter.all false
set_option maxRecDepth 100000
set_option maxHeartbeats 2000000
/-! Readings: what the meaning of a form says of the heap; expressions. -/
namespace M
open PySem PySem.Spec PyProof.Rows L2

abbrev add1 (Ex : Addr → Prop) (a : Addr) : Addr → Prop := fun b => Ex b ∨ b = a
/-- an exception of the module's class c, its field p -/
def XRep (G : Gx) (L : Addr → Prop) (φ : List Addr) (H : Hp) (c : Str) (p : D) (cls : Value) (dd : Option Addr) : Prop :=
  ∃ C, G.mg c = some (.ref C) ∧ cls = .ref C ∧ ((p = .non ∧ dd = none) ∨ ∃ d v, dd = some d ∧ H d = some (.xd [(("line" : Str), v)]) ∧ Rep G L φ H p v)
/-- a list of no one else's -/
def Fresh (G : Gx) (Ex : Addr → Prop) (H : Hp) (φ' : List Addr) (τ' : Store) (H' : Hp) (xs : List D) (v : V) : Prop :=
  ∃ a vs, v = .ref a ∧ H a = none ∧ H' a = some (.lst vs) ∧ SR G (add1 Ex a) φ' τ' H' ∧ RepL G (Lv φ' τ' (add1 Ex a)) φ' H' xs vs
abbrev Pst (α β : Type) := (Addr → Prop) → Hp → List Addr → Store → Hp → α → β → Prop
def PD (G : Gx) (fr : Bool) : Pst D V := fun Ex H φ' τ' H' d v => Rep G (Lv φ' τ' Ex) φ' H' d v ∧ (fr = true → ∀ xs, d = .lst xs → Fresh G Ex H φ' τ' H' xs v)
def PL (G : Gx) : Pst (List D) (List V) := fun Ex _ φ' τ' H' ds vs => RepL G (Lv φ' τ' Ex) φ' H' ds vs
def PB : Pst Bool Bool := fun _ _ _ _ _ b c => c = b
def POI : Pst (Option Int) (Option Int) := fun _ _ _ _ _ b c => c = b
section
variable {α β γ δ : Type}
/-- from this state the outcome o leads to what is wanted -/
def At (G : Gx) (B : Store) (W : WX) (P : Pst α β) (Ex : Addr → Prop) (φ : List Addr) (ρ : Env) (τ : Store) (o : Out (α × Store)) (σ : L2.St) (H : Hp) (Q : β → Hp → Prop) : Prop :=
  R G B Ex φ ρ τ σ H ∧ match o with
  | .ok (d, τ') => ∀ φ' v H', Step φ τ H φ' τ' H' → R G B Ex φ' ρ τ' σ H' → P Ex H φ' τ' H' d v → Q v H'
  | .exc c p τ' => ∀ φ' cls dd H', Step φ τ H φ' τ' H' → R G B Ex φ' ρ τ' σ H' → XRep G (Lv φ' τ' Ex) φ' H' c p cls dd → W cls dd σ H'
  | .stuck => False
def tG (G : Gx) (B : Store) (W : WX) (P : Pst α β) (f : Env → Store → Out (α × Store)) : L2.St → Hp → (β → Hp → Prop) → Prop := fun σ H Q =>
  ∃ Ex φ ρ τ, At G B W P Ex φ ρ τ (f ρ τ) σ H Q
variable {G : Gx} {B : Store} {W : WX} {P : Pst α β} {P2 : Pst γ δ} {Ex : Addr → Prop} {φ φ1 φ' : List Addr} {ρ : Env} {τ τ1 τ' : Store} {σ : L2.St} {H H1 H' : Hp} {Q : β → Hp → Prop} {Q2 : δ → Hp → Prop}
theorem At.bind {o : Out (γ × Store)} {g : γ × Store → Out (α × Store)} (h : At G B W P Ex φ ρ τ (o.bind g) σ H Q) (hP : ∀ {Ex H H1 φ' τ' H' d v}, (∀ a, H a ≠ none → H1 a ≠ none) → P Ex H1 φ' τ' H' d v → P Ex H φ' τ' H' d v) :
    At G B W P2 Ex φ ρ τ o σ H fun v H1 => ∃ d φ1 τ1, o = .ok (d, τ1) ∧ Step φ τ H φ1 τ1 H1 ∧ P2 Ex H φ1 τ1 H1 d v ∧ At G B W P Ex φ1 ρ τ1 (g (d, τ1)) σ H1 Q := by
  obtain ⟨hR, h⟩ := h
  refine ⟨hR, ?_⟩
  cases o with
  | stuck => exact h
  | exc c p τ' => exact h
  | ok r =>
    obtain ⟨d, τ1⟩ := r
    intro φ1 v H1 st R1 rp
    refine ⟨d, φ1, τ1, rfl, st, rp, R1, ?_⟩
    simp only [Out.bind_ok] at h
    cases e : g (d, τ1) with
    | stuck => rw [e] at h; exact h
    | exc c p τ' =>
      rw [e] at h
      intro φ' cls dd H' st' R' x
      exact h φ' cls dd H' (st.trans st') R' x
    | ok r' =>
      obtain ⟨d', τ'⟩ := r'
      rw [e] at h
      intro φ' v' H' st' R' rp'
      exact h φ' v' H' (st.trans st') R' (hP st.dom rp')
theorem At.mono {o : Out (α × Store)} {Q' : β → Hp → Prop} (h : At G B W P Ex φ ρ τ o σ H Q) (k : ∀ v H', Q v H' → Q' v H') : At G B W P Ex φ ρ τ o σ H Q' := by
  obtain ⟨hR, h⟩ := h
  refine ⟨hR, ?_⟩
  cases o with
  | stuck => exact h
  | exc c p τ' => exact h
  | ok r =>
    obtain ⟨d, τ'⟩ := r
    exact fun φ' v H' st R' rp => k v H' (h φ' v H' st R' rp)
/-- the heap grows, nothing changes -/
def Grow (H H' : Hp) : Prop := ∀ a o, H a = some o → H' a = some o
theorem Grow.refl : Grow H H := fun _ _ h => h
theorem Grow.trans {H2 : Hp} (g : Grow H H1) (k : Grow H1 H2) : Grow H H2 := fun a o h => k a o (g a o h)
theorem Grow.upd {a : Addr} {o : HO} (h : H a = none) : Grow H (upd H a o) := fun b u e => by
  rw [upd_ne (ne_of_none e h)]; exact e
theorem Grow.dom (g : Grow H H') : ∀ a, H a ≠ none → H' a ≠ none := fun a h => by
  cases e : H a with
  | none => exact absurd e h
  | some o => rw [g a o e]; simp
theorem Step.grow (g : Grow H H') : Step φ τ H φ τ H' := ⟨⟨[], by simp⟩, fun a o h _ => g a o h, g.dom, fun _ h => .inl h⟩
theorem Rep.grow {L : Addr → Prop} {d : D} {v : V} (g : Grow H H') (h : Rep G L φ H d v) : Rep G L φ H' d v :=
  Rep.gen (fun a vs r => Rd.step r fun o => g a o) (fun a vs n r => ⟨n, Rd.step r fun o => g a o⟩) (fun _ _ e => e) d v h
theorem RepL.grow {L : Addr → Prop} {ds : List D} {vs : List V} (g : Grow H H') (h : RepL G L φ H ds vs) : RepL G L φ H' ds vs :=
  RepL.gen (fun a vs r => Rd.step r fun o => g a o) (fun a vs n r => ⟨n, Rd.step r fun o => g a o⟩) (fun _ _ e => e) ds vs h
theorem SR.grow (g : Grow H H') (s : SR G Ex φ τ H) : SR G Ex φ τ H' :=
  ⟨s.len, s.nd, fun n xs a h1 h2 => let ⟨vs, e, r⟩ := s.cell n xs a h1 h2; ⟨vs, g _ _ e, r.grow g⟩, fun i a h => g.dom a (s.dom i a h), fun a h => ⟨g.dom a (s.ex a h).1, (s.ex a h).2⟩⟩
theorem R.grow (g : Grow H H') (r : R G B Ex φ ρ τ σ H) : R G B Ex φ ρ τ σ H' :=
  ⟨r.sr.grow g, ⟨r.er.len, fun i d e => let ⟨v, e1, q⟩ := r.er.val i d e; ⟨v, e1, q.grow g⟩⟩, r.low, r.bs⟩
/-- a plain end -/
theorem At.done {d : α} {v : β} (h : At G B W P Ex φ ρ τ (.ok (d, τ)) σ H Q) (g : Grow H H') (p : P Ex H φ τ H' d v) : Q v H' :=
  h.2 φ v H' (Step.grow g) (h.1.grow g) p
theorem R.lv (r : R G B Ex φ ρ τ σ H) : ∀ a, Lv φ τ Ex a → H a ≠ none := by
  rintro a (⟨n, xs, h1, h2⟩ | h)
  · exact r.sr.dom n a h2
  · exact (r.sr.ex a h).1
/-- L smaller -/
theorem Rep.weak {L L' : Addr → Prop} {d : D} {v : V} (k : ∀ a, L' a → L a) (h : Rep G L φ H d v) : Rep G L' φ H d v :=
  Rep.gen (fun a vs r => r) (fun a vs n r => ⟨fun z => n (k a z), r⟩) (fun _ _ e => e) d v h
theorem RepL.weak {L L' : Addr → Prop} {ds : List D} {vs : List V} (k : ∀ a, L' a → L a) (h : RepL G L φ H ds vs) : RepL G L' φ H ds vs :=
  RepL.gen (fun a vs r => r) (fun a vs n r => ⟨fun z => n (k a z), r⟩) (fun _ _ e => e) ds vs h
/-- a new list at a: nothing that lay before speaks of it -/
theorem Rep.add {L : Addr → Prop} {a : Addr} {d : D} {v : V} (n : H a = none) (g : Grow H H') (h : Rep G L φ H d v) : Rep G (fun b => L b ∨ b = a) φ H' d v :=
  Rep.gen (fun b vs r => Rd.step r fun o => g b o) (fun b vs m r => ⟨fun z => z.elim m fun e => Rd.ne r (e ▸ n), Rd.step r fun o => g b o⟩) (fun _ _ e => e) d v h
theorem RepL.add {L : Addr → Prop} {a : Addr} {ds : List D} {vs : List V} (n : H a = none) (g : Grow H H') (h : RepL G L φ H ds vs) : RepL G (fun b => L b ∨ b = a) φ H' ds vs :=
  RepL.gen (fun b vs r => Rd.step r fun o => g b o) (fun b vs m r => ⟨fun z => z.elim m fun e => Rd.ne r (e ▸ n), Rd.step r fun o => g b o⟩) (fun _ _ e => e) ds vs h
theorem lv_add1 {a b : Addr} : Lv φ τ (add1 Ex a) b ↔ (Lv φ τ Ex b ∨ b = a) := by
  unfold Lv add1; constructor
  · rintro (h | h | h)
    · exact .inl (.inl h)
    · exact .inl (.inr h)
    · exact .inr h
  · rintro ((h | h) | h)
    · exact .inl h
    · exact .inr (.inl h)
    · exact .inr (.inr h)
theorem SR.add {a : Addr} {o : HO} (n : H a = none) (s : SR G Ex φ τ H) : SR G (add1 Ex a) φ τ (upd H a o) where
  len := s.len
  nd := s.nd
  cell := fun i xs b h1 h2 => by
    obtain ⟨vs, e, r⟩ := s.cell i xs b h1 h2
    refine ⟨vs, Grow.upd n _ _ e, (RepL.add n (Grow.upd n) r).weak fun c h => ?_⟩
    exact lv_add1.mp h
  dom := fun i b h => (Grow.upd n).dom b (s.dom i b h)
  ex := fun b h => by
    rcases h with h | h
    · exact ⟨(Grow.upd n).dom b (s.ex b h).1, (s.ex b h).2⟩
    · subst h
      exact ⟨by rw [upd_same]; simp, fun i e => s.dom i b e n⟩
/-- .. is a fresh list -/
theorem R.fresh {a : Addr} {xs : List D} {vs : List V} {H0 : Hp} (r : R G B Ex φ ρ τ σ H) (n : H a = none) (hd : ∀ a, H0 a ≠ none → H a ≠ none) (h : RepL G (Lv φ τ Ex) φ H xs vs) :
    PD G true Ex H0 φ τ (upd H a (.lst vs)) (.lst xs) (.ref a) := by
  have rl := RepL.add n (Grow.upd (o := .lst vs) n) h
  refine ⟨?_, fun _ ys e => ?_⟩
  · simp only [Rep]
    exact ⟨a, vs, rfl, fun z => (r.lv a z) n, .inl upd_same, rl.weak fun b h => .inl h⟩
  · cases e
    refine ⟨a, vs, rfl, ?_, upd_same, r.sr.add n, rl.weak fun b h => lv_add1.mp h⟩
    cases e : H0 a with
    | none => rfl
    | some o => exact absurd n (hd a (by rw [e]; simp))
theorem PD.back {fr : Bool} {Ex H H1 φ' τ' H' d v} (k : ∀ a, H a ≠ none → H1 a ≠ none) (h : PD G fr Ex H1 φ' τ' H' d v) : PD G fr Ex H φ' τ' H' d v :=
  ⟨h.1, fun e xs q => let ⟨a, vs, e1, n, e2, s, r⟩ := h.2 e xs q; ⟨a, vs, e1, by
    cases e : H a with
    | none => rfl
    | some o => exact absurd n (k a (by rw [e]; simp)), e2, s, r⟩⟩
theorem PD.to {fr : Bool} {Ex H φ' τ' H' d v} (h : PD G true Ex H φ' τ' H' d v) : PD G fr Ex H φ' τ' H' d v := ⟨h.1, fun _ => h.2 rfl⟩
theorem PD.not {Ex H φ' τ' H' d v} (h : Rep G (Lv φ' τ' Ex) φ' H' d v) : PD G false Ex H φ' τ' H' d v := ⟨h, fun z => nomatch z⟩
theorem PD.nl {fr : Bool} {Ex H φ' τ' H' d v} (h : Rep G (Lv φ' τ' Ex) φ' H' d v) (n : ∀ xs, d ≠ .lst xs) : PD G fr Ex H φ' τ' H' d v := ⟨h, fun _ xs e => absurd e (n xs)⟩
theorem R.step (r : R G B Ex φ ρ τ σ H) (t : Step φ τ H φ' τ' H') (s' : SR G Ex φ' τ' H') (l : ∀ n, n ≤ B.length → Low n B → Low n τ') (b : B.length ≤ τ'.length) : R G B Ex φ' ρ τ' σ H' :=
  ⟨s', r.er.step r.sr t, l, b⟩
end

/-! ### the view of a list's cell -/
/-- as read: a list may be a cell's -/
def Val (G : Gx) (L : Addr → Prop) (φ : List Addr) (H : Hp) : D → V → Prop
  | .lst xs, v => ∃ a vs, v = .ref a ∧ Rd H a (.lst vs) ∧ RepL G L φ H xs vs
  | d, v => Rep G L φ H d v
section
variable {G : Gx} {B : Store} {Ex L : Addr → Prop} {φ : List Addr} {ρ : Env} {τ : Store} {σ : L2.St} {H H' : Hp} {d : D} {v : V}
theorem Rep.val (h : Rep G L φ H d v) : Val G L φ H d v := by
  cases d with
  | lst xs =>
    simp only [Rep] at h
    obtain ⟨a, vs, e, _, r, q⟩ := h
    exact ⟨a, vs, e, r, q⟩
  | _ => exact h
theorem SR.hd (s : SR G Ex φ τ H) (h : Rep G (Lv φ τ Ex) φ H d v) : Val G (Lv φ τ Ex) φ H (hd τ d) v := by
  cases d with
  | ref n =>
    have h' := h
    simp only [Rep] at h'
    obtain ⟨a, e1, e2⟩ := h'
    cases q : τ[n]? with
    | none =>
      have e : M.hd τ (.ref n) = .ref n := by simp only [M.hd, q]
      rw [e]; exact h
    | some c =>
      cases c with
      | none =>
        have e : M.hd τ (.ref n) = .ref n := by simp only [M.hd, q]
        rw [e]; exact h
      | some xs =>
        have e : M.hd τ (.ref n) = .lst xs := by simp only [M.hd, q]
        rw [e]
        obtain ⟨vs, e3, r⟩ := s.cell n xs a q e1
        exact ⟨a, vs, e2, .inl e3, r⟩
  | _ => exact h.val
end
theorem _root_.L2.PE.imp {X : Cx} {e : Expr} {t t' : TE} (h : PE X e t) (k : ∀ σ H Q, t' σ H Q → t σ H Q) : PE X e t' := ⟨fun pins s σ H Q I hq => h.run pins s σ H Q I (k σ H Q hq)⟩
theorem _root_.L2.PT.imp {X : Cx} {e : Expr} {t t' : TT} (h : PT X e t) (k : ∀ σ H Q, t' σ H Q → t σ H Q) : PT X e t' := ⟨fun pins s σ H Q I hq => h.run pins s σ H Q I (k σ H Q hq)⟩
theorem _root_.L2.PA.imp {X : Cx} {e : List Expr} {t t' : TA} (h : PA X e t) (k : ∀ σ H Q, t' σ H Q → t σ H Q) : PA X e t' := ⟨fun pos pins s σ H Q I hq => h.run pos pins s σ H Q I (k σ H Q hq)⟩
theorem _root_.L2.PO.imp {X : Cx} {e : Option Expr} {t t' : TO} (h : PO X e t) (k : ∀ σ H Q, t' σ H Q → t σ H Q) : PO X e t' := ⟨fun pins s σ H Q I hq => h.run pins s σ H Q I (k σ H Q hq)⟩
theorem _root_.L2.PTs.imp {X : Cx} {e : List Expr} {t t' : TT} (h : PTs X e t) (k : ∀ σ H Q, t' σ H Q → t σ H Q) : PTs X e t' := ⟨fun pins s σ H Q I hq => h.run pins s σ H Q I (k σ H Q hq)⟩
end M
set_option Elab.async false
set_option linter.all false
set_option maxRecDepth 100000
set_option maxHeartbeats 4000000
/-! Operations on values: what binF, cmpF .. say is what the model does. -/
namespace M
open PySem PySem.Spec PyProof.Rows L2

/-- the end of an operation that changes nothing but lays new things -/
def OpPost (G : Gx) (L : Addr → Prop) (φ : List Addr) (H : Hp) (d : D) (v : V) (H' : Hp) : Prop :=
  Grow H H' ∧ Rep G L φ H' d v ∧ ∀ xs, d = .lst xs → ∃ p vs, v = .ref p ∧ H p = none ∧ H' = upd H p (.lst vs) ∧ RepL G L φ H xs vs
section
variable {G : Gx} {B : Store} {W : WX} {Ex L : Addr → Prop} {φ : List Addr} {ρ : Env} {τ : Store} {σ : L2.St} {H H' : Hp} {d : D} {v : V}
theorem OpPost.pd (r : R G B Ex φ ρ τ σ H) (h : OpPost G (Lv φ τ Ex) φ H d v H') : PD G true Ex H φ τ H' d v := by
  obtain ⟨g, rp, hl⟩ := h
  cases d with
  | lst xs =>
    obtain ⟨p, vs, rfl, n, rfl, rl⟩ := hl xs rfl
    exact r.fresh n (fun _ h => h) rl
  | _ => exact PD.nl rp (fun xs e => nomatch e)
theorem At.op {fr : Bool} {Q : V → Hp → Prop} (h : At G B W (PD G fr) Ex φ ρ τ (.ok (d, τ)) σ H Q) (k : OpPost G (Lv φ τ Ex) φ H d v H') : Q v H' :=
  h.done k.1 (k.pd h.1).to
theorem OpPost.flat (h : Rep G L φ H d v) (n : ∀ xs, d ≠ .lst xs) : OpPost G L φ H d v H := ⟨Grow.refl, h, fun xs e => absurd e (n xs)⟩
theorem OpPost.int {i : Int} : OpPost G L φ H (.int i) (.int i) H := OpPost.flat (by simp only [Rep]) (fun _ e => nomatch e)
theorem OpPost.bl {i : Bool} : OpPost G L φ H (.bl i) (.bl i) H := OpPost.flat (by simp only [Rep]) (fun _ e => nomatch e)
theorem OpPost.newTup {xs : List D} {vs : List V} {p : Addr} (h : RepL G L φ H xs vs) (n : H p = none) : OpPost G L φ H (.tup xs) (.ref p) (upd H p (.tup vs)) := by
  refine ⟨Grow.upd n, ?_, fun _ e => nomatch e⟩
  simp only [Rep]
  exact ⟨p, vs, rfl, SqT.of upd_same, h.grow (Grow.upd n)⟩
theorem OpPost.newLst {xs : List D} {vs : List V} {p : Addr} (hL : ∀ a, L a → H a ≠ none) (h : RepL G L φ H xs vs) (n : H p = none) : OpPost G L φ H (.lst xs) (.ref p) (upd H p (.lst vs)) := by
  refine ⟨Grow.upd n, ?_, fun ys e => ?_⟩
  · simp only [Rep]
    exact ⟨p, vs, rfl, fun z => hL p z n, .inl upd_same, h.grow (Grow.upd n)⟩
  · cases e
    exact ⟨p, vs, rfl, n, rfl, h⟩
end
/-- two data in, one out -/
def rOp (G : Gx) (F : D → D → Option D) : R2 := fun x y H Q => ∃ (L : Addr → Prop) (φ : List Addr) (a b d : D), (∀ a, L a → H a ≠ none) ∧ Val G L φ H a x ∧ Val G L φ H b y ∧ F a b = some d ∧ ∀ v H', OpPost G L φ H d v H' → Q v H'
def rOpB (G : Gx) (F : D → D → Option Bool) : R2 := fun x y H Q => ∃ (L : Addr → Prop) (φ : List Addr) (a b : D) (d : Bool), Val G L φ H a x ∧ Val G L φ H b y ∧ F a b = some d ∧ Q (.bl d) H
def opO : BinO → Operator
  | .add => .Add | .sub => .Sub | .mul => .Mult | .fdiv => .FloorDiv | .mod => .Mod | .pow => .Pow
def cmpOp : CmpO → CmpOp
  | .eq => .Eq | .ne => .NotEq | .lt => .Lt | .le => .LtE | .gt => .Gt | .ge => .GtE | .is_ => .Is | .isnot => .IsNot | .in_ => .In | .notin => .NotIn
theorem line_big : (1000000 : Nat) ≤ sizeLine := by rw [sizeLine_eq]; decide
section
variable {X : Cx} {G : Gx}
theorem tuple_addW0 (l b : Addr) (items items2 : Array Value) (n n2 : Nat) (dd dd2 : Option Addr) (sl sl2 : Array (Option Value)) (hc0 : items.isEmpty = true) :
    Meets (Builtin.«tuple.__add__» ⟨[.ref l, .ref b], []⟩) (fun _ R s => s.heap.get? l = some { cls := .type "tuple", dict := dd, data := .seq items n, slots := sl } ∧ s.heap.get? b = some { cls := .type "tuple", dict := dd2, data := .seq items2 n2, slots := sl2 } ∧ R (.ok (.ret (Value.ref b))) s) :=
  .of_wp fun prog w A R s h => by
    obtain ⟨hp, g, d, tk, os⟩ := s
    obtain ⟨hl, hb, h⟩ := h
    have f1 := AutoSeq1.idx_int; have f2 := AutoSeq1.sub_tuple_tuple; have f3 := AutoSeq1.sub_list_list; have f4 := AutoSeq1.sub_tuple_list; have f5 := AutoSeq1.sub_list_tuple
    wp_walk using wpAny_loadPart' hl, wpAny_loadPart' hb
    exact ⟨_, rfl, h⟩
theorem cat_tup0 {prog : Program} {w : World} {A : Around} {E : Value → Shared → Prop} {s : Shared} {t b : Addr} {ws : List Value} {Q : Value → Shared → Prop} (ht : IsTup s.heap t #[]) (hb : IsTup s.heap b ws.toArray) (h1 : Q (.ref b) s) :
    wpAny (model prog w) A (binaryOp .Add (.ref t) (.ref b)) Q E s := by
  obtain ⟨⟨cls, dd, data, sl⟩, ho, hc, n, hd⟩ := id ht
  obtain ⟨⟨cls2, dd2, data2, sl2⟩, ho2, hc2, n2, hd2⟩ := id hb
  simp only at hc hd hc2 hd2
  subst hc hd hc2 hd2
  exact concat_meets ⟨_, ho, rfl⟩ ⟨_, ho2, rfl⟩ noFill_tuple_add seq_tuple_add PySem.F.slot_tuple_add PySem.F.entry_tuple_add (PySem.F.args_tuple_add_2 _ _)
      (tuple_addW0 t b #[] ws.toArray n n2 dd dd2 sl sl2 (by rfl)) ⟨ho, ho2, h1⟩
theorem Inv.exact {pins : List (Addr × Obj)} {s : Shared} {σ : L2.St} {H : Hp} (I : Inv X pins σ H s) {a : Addr} {xs : List V} (h : Rd H a (.lst xs)) :
    xs.length ≤ sizeLine ∧ ∃ (its : List Value) (n : Nat), Vals xs its ∧ s.heap.get? a = some { cls := .type "list", data := .seq its.toArray n } := h.ok I.hok
theorem op_catL : OpR X (binaryOp .Add) (fun x y H Q => ∃ l b xs zs, x = .ref l ∧ y = .ref b ∧ Rd H l (.lst xs) ∧ Rd H b (.lst zs) ∧ xs.length + zs.length ≤ sizeLine ∧ ∀ p, H p = none → Q (.ref p) (upd H p (.lst (xs ++ zs)))) := by
  intro pins s σ H x y v u Q I rx ry h
  obtain ⟨l, b, xs, zs, rfl, rfl, hH, hB, hz, q⟩ := h
  cases rx
  cases ry
  obtain ⟨z, its, n, r, e⟩ := Inv.exact I hH
  obtain ⟨z2, its2, n2, r2, e2⟩ := Inv.exact I hB
  have hl := r.length
  have hl2 := r2.length
  refine PySem.P.add_list e e2 ?_ (by rw [List.size_toArray, List.size_toArray]; omega)
  have ea : its.toArray ++ its2.toArray = (its ++ its2).toArray := by simp
  rw [ea]
  refine ⟨.ref s.heap.objs.size, _, I.laid (t' := s.toks) (o := .lst (xs ++ zs)) (fun b ob q => Heap.get?_push_of_some _ q) (Nat.le_refl _) ?_, rfl, q _ (I.hok.fresh (Nat.le_refl _))⟩
  exact ⟨by rw [List.length_append]; exact hz, its ++ its2, 0, r.append r2, Heap.get?_push_size _ rfl⟩
theorem small_iff {i : Int} : small i = true ↔ (-(2 ^ 64) < i ∧ i < 2 ^ 64) := by
  unfold small; simp only [Bool.and_eq_true, decide_eq_true_eq]
theorem RepL.nil_iff {L : Addr → Prop} {φ : List Addr} {H : Hp} {xs : List D} {vs : List V} (h : RepL G L φ H xs vs) : xs = [] ↔ vs = [] := by
  have e := h.length
  constructor
  · intro z; subst z; exact List.length_eq_zero_iff.mp (by simpa using e.symm)
  · intro z; subst z; exact List.length_eq_zero_iff.mp (by simpa using e)
theorem rep_many {G : Gx} {L : Addr → Prop} {φ : List Addr} {H : Hp} {xs : List D} {vs : List V} (r : RepL G L φ H xs vs) : ∀ n : Nat, RepL G L φ H (List.replicate n xs).flatten (List.replicate n vs).flatten
  | 0 => by simp only [List.replicate_zero, List.flatten_nil, RepL]
  | n + 1 => by
    simp only [List.replicate_succ, List.flatten_cons]
    exact r.append (rep_many r n)
theorem op_isB {X : Cx} : OpR X (compareOp .Is) (fun x y H Q => ∃ a b : Bool, x = .bl a ∧ y = .bl b ∧ Q (.bl (a == b)) H) := by
  intro pins s σ H x y v u Q I rx ry h
  obtain ⟨a, b, rfl, rfl, q⟩ := h
  cases rx; cases ry
  refine wpAny_pure ?_
  exact ⟨.bl (a == b), H, I, by cases a <;> cases b <;> rfl, q⟩
theorem op_isNB {X : Cx} : OpR X (compareOp .IsNot) (fun x y H Q => ∃ a b : Bool, x = .bl a ∧ y = .bl b ∧ Q (.bl (a != b)) H) := by
  intro pins s σ H x y v u Q I rx ry h
  obtain ⟨a, b, rfl, rfl, q⟩ := h
  cases rx; cases ry
  refine wpAny_pure ?_
  exact ⟨.bl (a != b), H, I, by cases a <;> cases b <;> rfl, q⟩
theorem op_bin (hG : G.K = X.K) (o : BinO) : OpR X (binaryOp (opO o)) (rOp G (binF o)) := by
  intro pins s σ H x y v u Q I rx ry h
  obtain ⟨L, φ, a, b, d, hL, ha, hb, e, q⟩ := h
  have two : ∀ i j, a = .int i → b = .int j → x = .int i ∧ y = .int j := by
    rintro i j rfl rfl
    exact ⟨by simpa only [Val, Rep] using ha, by simpa only [Val, Rep] using hb⟩
  unfold binF at e
  split at e
  · cases e
    obtain ⟨rfl, rfl⟩ := two _ _ rfl rfl
    exact op_add pins s σ H _ _ v u Q I rx ry ⟨_, _, rfl, rfl, q _ _ OpPost.int⟩
  · rename_i xs ys
    split at e
    · rename_i hz
      cases e
      simp only [Val, Rep] at ha hb
      obtain ⟨l, vs, rfl, h1, r1⟩ := ha
      obtain ⟨m, ws, rfl, h2, r2⟩ := hb
      rw [hG] at h1 h2
      have z1 := r1.length
      have z2 := r2.length
      have hbig := line_big
      by_cases hx : vs = []
      · subst hx
        have ex : xs = [] := r1.nil_iff.mpr rfl
        subst ex
        cases rx; cases ry
        obtain ⟨its, rr, p1, _⟩ := I.tuple h1
        obtain ⟨its2, rr2, p2, _⟩ := I.tuple h2
        cases rr
        refine cat_tup0 p1 p2 ⟨.ref m, H, I, rfl, q _ _ (OpPost.flat ?_ (fun _ e => nomatch e))⟩
        rw [← hG] at h2
        simp only [Rep, List.nil_append]
        exact ⟨m, ws, rfl, h2, r2⟩
      · refine op_catT pins s σ H _ _ v u Q I rx ry ⟨l, m, vs, ws, rfl, rfl, h1, h2, hx, by omega, fun ey => ?_, fun ny p np => q _ _ (OpPost.newTup (r1.append r2) np)⟩
        subst ey
        have ex : ys = [] := r2.nil_iff.mpr rfl
        subst ex
        refine q _ _ (OpPost.flat ?_ (fun _ e => nomatch e))
        rw [← hG] at h1
        simp only [Rep, List.append_nil]
        exact ⟨l, vs, rfl, h1, r1⟩
    · cases e
  · rename_i xs ys
    split at e
    · rename_i hz
      cases e
      simp only [Val] at ha hb
      obtain ⟨l, vs, rfl, h1, r1⟩ := ha
      obtain ⟨m, ws, rfl, h2, r2⟩ := hb
      have z1 := r1.length
      have z2 := r2.length
      have hbig := line_big
      exact op_catL pins s σ H _ _ v u Q I rx ry ⟨l, m, vs, ws, rfl, rfl, h1, h2, by omega, fun p np => q _ _ (OpPost.newLst hL (r1.append r2) np)⟩
    · cases e
  · cases e
    obtain ⟨rfl, rfl⟩ := two _ _ rfl rfl
    exact op_sub pins s σ H _ _ v u Q I rx ry ⟨_, _, rfl, rfl, q _ _ OpPost.int⟩
  · split at e
    · rename_i hc
      cases e
      obtain ⟨rfl, rfl⟩ := two _ _ rfl rfl
      rw [Bool.or_eq_true, small_iff, small_iff] at hc
      exact op_mul pins s σ H _ _ v u Q I rx ry ⟨_, _, rfl, rfl, hc, q _ _ OpPost.int⟩
    · cases e
  · split at e
    · rename_i hc
      cases e
      obtain ⟨rfl, rfl⟩ := two _ _ rfl rfl
      exact op_fdivN pins s σ H _ _ v u Q I rx ry ⟨_, _, rfl, rfl, hc, q _ _ OpPost.int⟩
    · cases e
  · split at e
    · rename_i hc
      cases e
      obtain ⟨rfl, rfl⟩ := two _ _ rfl rfl
      exact op_modN pins s σ H _ _ v u Q I rx ry ⟨_, _, rfl, rfl, hc, q _ _ OpPost.int⟩
    · cases e
  · split at e
    · rename_i hc
      cases e
      obtain ⟨rfl, rfl⟩ := two _ _ rfl rfl
      exact op_pow pins s σ H _ _ v u Q I rx ry ⟨_, _, rfl, rfl, ⟨hc.1, by omega, hc.2.2⟩, q _ _ OpPost.int⟩
    · cases e
  · cases e
/-! ### equality, in -/
mutual
theorem Rep.dp (hG : G.K = X.K) {L : Addr → Prop} {φ : List Addr} {H : Hp} : ∀ (d : D) (v : V) (p : PyData), Rep G L φ H d v → py d = some p → Dp X.K H v p
  | .non, _, _, h, e => by simp only [Rep, py, Option.some.injEq] at h e; subst h e; exact .non
  | .bl b, _, _, h, e => by simp only [Rep, py, Option.some.injEq] at h e; subst h e; exact .bl b
  | .int b, _, _, h, e => by simp only [Rep, py, Option.some.injEq] at h e; subst h e; exact .int b
  | .str b, _, _, h, e => by simp only [Rep, py, Option.some.injEq] at h e; subst h e; exact .str b
  | .tup xs, _, _, h, e => by
    simp only [Rep, py, Option.map_eq_some_iff] at h e
    obtain ⟨a, vs, rfl, h1, h2⟩ := h
    obtain ⟨ps, e1, rfl⟩ := e
    exact .tup (hG ▸ h1) (RepL.dp hG xs vs ps h2 e1)
  | .lst xs, _, _, h, e => by
    simp only [Rep, py, Option.map_eq_some_iff] at h e
    obtain ⟨a, vs, rfl, _, h1, h2⟩ := h
    obtain ⟨ps, e1, rfl⟩ := e
    exact .lst (.inl h1) (RepL.dp hG xs vs ps h2 e1)
  | .ref _, _, _, _, e => by simp only [py] at e; cases e
  | .fn _, _, _, _, e => by simp only [py] at e; cases e
theorem RepL.dp (hG : G.K = X.K) {L : Addr → Prop} {φ : List Addr} {H : Hp} : ∀ (ds : List D) (vs : List V) (ps : List PyData), RepL G L φ H ds vs → pyL ds = some ps → DpAll X.K H vs ps
  | [], _, _, h, e => by simp only [RepL, pyL, Option.some.injEq] at h e; subst h e; exact .nil
  | d :: ds, _, _, h, e => by
    simp only [RepL, pyL, Option.bind_eq_some_iff, Option.some.injEq] at h e
    obtain ⟨v, r, rfl, h1, h2⟩ := h
    obtain ⟨p, e1, ps, e2, rfl⟩ := e
    exact .cons (Rep.dp hG d v p h1 e1) (RepL.dp hG ds r ps h2 e2)
end
theorem Val.dp (hG : G.K = X.K) {L : Addr → Prop} {φ : List Addr} {H : Hp} {d : D} {v : V} {p : PyData} (h : Val G L φ H d v) (e : py d = some p) : Dp X.K H v p := by
  cases d with
  | lst xs =>
    simp only [Val, py, Option.map_eq_some_iff] at h e
    obtain ⟨a, vs, rfl, h1, h2⟩ := h
    obtain ⟨ps, e1, rfl⟩ := e
    exact .lst (.inl h1) (RepL.dp hG xs vs ps h2 e1)
  | _ => exact Rep.dp hG _ _ _ h e
theorem op_in_ok (hG : G.K = X.K) (hu : X.A.units + 65 < cLine) (neg : Bool) : OpR X (compareOp (if neg then .NotIn else .In)) (rOpB G fun a b => (inF a b).map fun k => if neg then !k else k) := by
  intro pins s σ H x y v u Q I rx ry h
  obtain ⟨L, φ, a, b, d, ha, hb, e, q⟩ := h
  rw [Option.map_eq_some_iff] at e
  obtain ⟨k, e, rfl⟩ := e
  unfold inF at e
  split at e
  · rename_i ys
    simp only [Option.bind_eq_some_iff, Option.ite_none_right_eq_some, Option.some.injEq] at e
    obtain ⟨p, ep, ps, eps, ⟨s1, s2⟩, rfl⟩ := e
    have d1 := ha.dp (X := X) hG ep
    have d2 : Dp X.K H y (.list ps) := hb.dp (X := X) hG (by simp only [py, eps, Option.map_some])
    cases neg with
    | false => exact op_inD hu pins s σ H _ _ v u Q I rx ry ⟨p, ps, d1, d2, s1, s2, q⟩
    | true => exact op_notInD hu pins s σ H _ _ v u Q I rx ry ⟨p, ps, d1, d2, s1, s2, q⟩
  · rename_i ys
    simp only [Option.bind_eq_some_iff, Option.ite_none_right_eq_some, Option.some.injEq] at e
    obtain ⟨p, ep, ps, eps, ⟨s1, s2⟩, rfl⟩ := e
    have d1 := ha.dp (X := X) hG ep
    have d2 : Dp X.K H y (.tuple ps) := hb.dp (X := X) hG (by simp only [py, eps, Option.map_some])
    obtain ⟨as, r1⟩ := Dp.reads I p x v d1 rx
    obtain ⟨bs, r2⟩ := Dp.reads I (.tuple ps) y u d2 ry
    cases neg with
    | false => exact SeqAt.in_tuple_reads r2 r1 (SeqAt.canLay_of_shaped s2) (SeqAt.canLay_of_shaped s1) (room_in_shaped s1 hu) ⟨.bl _, H, I, rfl, q⟩
    | true => exact SeqAt.notIn_tuple_reads r2 r1 (SeqAt.canLay_of_shaped s2) (SeqAt.canLay_of_shaped s1) (room_in_shaped s1 hu) ⟨.bl _, H, I, rfl, q⟩
  · cases e
theorem dcmp_reads (hG : G.K = X.K) (hu : X.A.units + 65 < cLine) {pins : List (Addr × Obj)} {s : Shared} {σ : L2.St} {H : Hp} {x y : V} {v u : Value} {L : Addr → Prop} {φ : List Addr} {a b : D} {k : PyData → PyData → Bool} {d : Bool} (I : Inv X pins σ H s) (ha : Val G L φ H a x) (hb : Val G L φ H b y) (rx : RelV x v) (ry : RelV y u) (e : dcmp k a b = some d) :
    ∃ p p' as bs, Reads s.heap v p as ∧ Reads s.heap u p' bs ∧ PySem.W.alike p p' = true ∧ p ≠ .none ∧ X.A.units + min p.depth p'.depth < cLine ∧ d = k p p' := by
  unfold dcmp at e
  simp only [Option.bind_eq_some_iff, Option.ite_none_right_eq_some, Option.some.injEq] at e
  obtain ⟨p, ep, p', ep', c, rfl⟩ := e
  unfold okLt at c
  simp only [Bool.and_eq_true, Bool.not_eq_true', decide_eq_true_eq] at c
  obtain ⟨⟨c1, c2⟩, c3⟩ := c
  obtain ⟨as, r1⟩ := Dp.reads I p x v (ha.dp (X := X) hG ep) rx
  obtain ⟨bs, r2⟩ := Dp.reads I p' y u (hb.dp (X := X) hG ep') ry
  have c4 : p ≠ .none := fun z => by rw [z] at c2; cases c2
  have c5 : min p.depth p'.depth ≤ 60 := c3
  exact ⟨p, p', as, bs, r1, r2, c1, c4, by omega, rfl⟩
theorem op_cmp (hG : G.K = X.K) (hu : X.A.units + 65 < cLine) (o : CmpO) : OpR X (compareOp (cmpOp o)) (rOpB G (cmpF o)) := by
  intro pins s σ H x y v u Q I rx ry h
  obtain ⟨L, φ, a, b, d, ha, hb, e, q⟩ := h
  have two : ∀ i j, a = .int i → b = .int j → x = .int i ∧ y = .int j := by
    rintro i j rfl rfl
    exact ⟨by simpa only [Val, Rep] using ha, by simpa only [Val, Rep] using hb⟩
  unfold cmpF at e
  split at e
  · unfold peq at e
    simp only [Option.bind_eq_some_iff, Option.ite_none_right_eq_some, Option.some.injEq] at e
    obtain ⟨p, ep, p', ep', ⟨s1, s2⟩, rfl⟩ := e
    exact op_eqD (by omega) pins s σ H _ _ v u Q I rx ry ⟨p, p', ha.dp (X := X) hG ep, hb.dp (X := X) hG ep', s1, s2, q⟩
  · unfold peq at e
    simp only [Option.map_eq_some_iff, Option.bind_eq_some_iff, Option.ite_none_right_eq_some, Option.some.injEq] at e
    obtain ⟨k, ⟨p, ep, p', ep', ⟨s1, s2⟩, rfl⟩, rfl⟩ := e
    exact op_neD (by omega) pins s σ H _ _ v u Q I rx ry ⟨p, p', ha.dp (X := X) hG ep, hb.dp (X := X) hG ep', s1, s2, q⟩
  · cases e
    obtain ⟨rfl, rfl⟩ := two _ _ rfl rfl
    exact op_lt pins s σ H _ _ v u Q I rx ry ⟨_, _, rfl, rfl, q⟩
  · cases e
    obtain ⟨rfl, rfl⟩ := two _ _ rfl rfl
    exact op_le pins s σ H _ _ v u Q I rx ry ⟨_, _, rfl, rfl, q⟩
  · cases e
    obtain ⟨rfl, rfl⟩ := two _ _ rfl rfl
    exact op_gt pins s σ H _ _ v u Q I rx ry ⟨_, _, rfl, rfl, q⟩
  · cases e
    obtain ⟨rfl, rfl⟩ := two _ _ rfl rfl
    exact op_ge pins s σ H _ _ v u Q I rx ry ⟨_, _, rfl, rfl, q⟩
  · obtain ⟨p, p', as, bs, r1, r2, e1, e2, e3, rfl⟩ := dcmp_reads hG hu I ha hb rx ry e
    exact PySem.W.lt_data r1 r2 e1 e2 e3 ⟨.bl _, H, I, rfl, q⟩
  · obtain ⟨p, p', as, bs, r1, r2, e1, e2, e3, rfl⟩ := dcmp_reads hG hu I ha hb rx ry e
    exact PySem.W.le_data r1 r2 e1 e2 e3 ⟨.bl _, H, I, rfl, q⟩
  · obtain ⟨p, p', as, bs, r1, r2, e1, e2, e3, rfl⟩ := dcmp_reads hG hu I ha hb rx ry e
    exact PySem.W.gt_data r1 r2 e1 e2 e3 ⟨.bl _, H, I, rfl, q⟩
  · obtain ⟨p, p', as, bs, r1, r2, e1, e2, e3, rfl⟩ := dcmp_reads hG hu I ha hb rx ry e
    exact PySem.W.ge_data r1 r2 e1 e2 e3 ⟨.bl _, H, I, rfl, q⟩
  · exact op_in_ok (G := G) hG hu false pins s σ H x y v u Q I rx ry ⟨L, φ, a, b, d, ha, hb, by simpa using e, q⟩
  · exact op_in_ok (G := G) hG hu true pins s σ H x y v u Q I rx ry ⟨L, φ, a, b, d, ha, hb, by simpa using e, q⟩
  · cases e
    simp only [Val, Rep] at hb
    subst hb
    refine op_isN pins s σ H _ _ v u Q I rx ry ⟨rfl, ?_⟩
    have k : decide (x = .non) = isNon a := by
      cases a <;> simp only [Val, Rep] at ha
      case non => subst ha; rfl
      all_goals first
        | (subst ha; rfl)
        | (obtain ⟨_, _, rfl, _⟩ := ha; rfl)
        | (obtain ⟨_, _, rfl⟩ := ha; rfl)
    rw [k]; exact q
  · cases e
    simp only [Val, Rep] at ha hb
    subst ha hb
    exact op_isB pins s σ H _ _ v u Q I rx ry ⟨_, _, rfl, rfl, q⟩
  · cases e
    simp only [Val, Rep] at hb
    subst hb
    refine op_notN pins s σ H _ _ v u Q I rx ry ⟨rfl, ?_⟩
    have k : (!decide (x = .non)) = (!isNon a) := by
      cases a <;> simp only [Val, Rep] at ha
      case non => subst ha; rfl
      all_goals first
        | (subst ha; rfl)
        | (obtain ⟨_, _, rfl, _⟩ := ha; rfl)
        | (obtain ⟨_, _, rfl⟩ := ha; rfl)
    rw [k]; exact q
  · cases e
    simp only [Val, Rep] at ha hb
    subst ha hb
    exact op_isNB pins s σ H _ _ v u Q I rx ry ⟨_, _, rfl, rfl, q⟩
  · cases e
end
end M
set_option Elab.async false
set_option linter.all false
set_option maxRecDepth 100000
set_option maxHeartbeats 4000000
/-! Data in order: least, greatest, sorted. -/
namespace M
open PySem PySem.Spec PyProof.Rows L2
mutual
theorem dOf_py : ∀ (d : D) (p : PyData), py d = some p → dOf p = d
  | .non, _, h => by simp only [py, Option.some.injEq] at h; subst h; rfl
  | .bl _, _, h => by simp only [py, Option.some.injEq] at h; subst h; rfl
  | .int _, _, h => by simp only [py, Option.some.injEq] at h; subst h; rfl
  | .str _, _, h => by simp only [py, Option.some.injEq] at h; subst h; rfl
  | .tup xs, _, h => by
    simp only [py, Option.map_eq_some_iff] at h
    obtain ⟨ps, e, rfl⟩ := h
    simp only [dOf, dOfL_py xs ps e]
  | .lst xs, _, h => by
    simp only [py, Option.map_eq_some_iff] at h
    obtain ⟨ps, e, rfl⟩ := h
    simp only [dOf, dOfL_py xs ps e]
  | .ref _, _, h => by simp only [py] at h; cases h
  | .fn _, _, h => by simp only [py] at h; cases h
theorem dOfL_py : ∀ (ds : List D) (ps : List PyData), pyL ds = some ps → dOf.dOfL ps = ds
  | [], _, h => by simp only [pyL, Option.some.injEq] at h; subst h; rfl
  | d :: ds, _, h => by
    simp only [pyL, Option.bind_eq_some_iff, Option.some.injEq] at h
    obtain ⟨p, e1, ps, e2, rfl⟩ := h
    simp only [dOf.dOfL, dOf_py d p e1, dOfL_py ds ps e2]
end
section
variable {X : Cx} {G : Gx}
/-- a thing, its value, its reading -/
abbrev Tri := D × V × PyData
def TriOk (G : Gx) (L : Addr → Prop) (φ : List Addr) (H : Hp) (u : Value) (b : Tri) : Prop := RelV b.2.1 u ∧ Rep G L φ H b.1 b.2.1 ∧ py b.1 = some b.2.2
theorem trips (hG : G.K = X.K) {pins : List (Addr × Obj)} {s : Shared} {σ : L2.St} {H : Hp} {L : Addr → Prop} {φ : List Addr} (I : Inv X pins σ H s) : ∀ (xs : List D) (vs : List V) (ps : List PyData) (its : List Value), RepL G L φ H xs vs → pyL xs = some ps → Vals vs its →
    ∃ bs : List Tri, bs.map (·.1) = xs ∧ bs.map (·.2.2) = ps ∧ PySem.W.EachIs (TriOk G L φ H) its bs ∧ PySem.W.EachIs (fun u b => ∃ as, Reads s.heap u b.2.2 as) its bs
  | [], _, _, _, h, e, k => by
    simp only [RepL, pyL, Option.some.injEq] at h e
    subst h e
    cases k
    exact ⟨[], rfl, rfl, .nil, .nil⟩
  | d :: ds, _, _, _, h, e, k => by
    simp only [RepL, pyL, Option.bind_eq_some_iff, Option.some.injEq] at h e
    obtain ⟨v, r, rfl, h1, h2⟩ := h
    obtain ⟨p, e1, ps, e2, rfl⟩ := e
    cases k with
    | cons k1 k2 =>
      obtain ⟨bs, b1, b2, b3, b4⟩ := trips hG I ds r ps _ h2 e2 k2
      exact ⟨(d, v, p) :: bs, by rw [List.map_cons, b1], by rw [List.map_cons, b2], .cons ⟨k1, h1, e1⟩ b3, .cons (Dp.reads I p v _ (Rep.dp hG d v p h1 e1) k1) b4⟩
theorem each_out {H : Hp} {L : Addr → Prop} {φ : List Addr} : ∀ {out : List Value} {bs : List Tri}, PySem.W.EachIs (TriOk G L φ H) out bs → Vals (bs.map (·.2.1)) out ∧ RepL G L φ H (bs.map (·.1)) (bs.map (·.2.1)) ∧ (bs.map (·.2.2)).map dOf = bs.map (·.1)
  | _, _, .nil => ⟨.nil, by simp only [List.map_nil, RepL], rfl⟩
  | _, _, .cons (b := b) h r => by
    obtain ⟨h1, h2, h3⟩ := each_out r
    refine ⟨.cons h.1 h1, ?_, ?_⟩
    · simp only [List.map_cons, RepL]; exact ⟨_, _, rfl, h.2.1, h2⟩
    · simp only [List.map_cons, h3, dOf_py _ _ h.2.2]
/-- a seq where the value lies -/
theorem seq_at {pins : List (Addr × Obj)} {s : Shared} {σ : L2.St} {H : Hp} {L : Addr → Prop} {φ : List Addr} (hG : G.K = X.K) (I : Inv X pins σ H s) {d : D} {xs : List D} {x : V} {v : Value} (hd : d = .lst xs ∨ d = .tup xs) (ha : Val G L φ H d x) (rx : RelV x v) :
    ∃ (a : Addr) (vs : List V) (its : List Value) (T : String) (o : Obj) (n : Nat), v = .ref a ∧ RepL G L φ H xs vs ∧ Vals vs its ∧ (T = "list" ∨ T = "tuple") ∧ s.heap.get? a = some o ∧ o.cls = .type T ∧ o.data = .seq its.toArray n ∧ vs.length ≤ sizeLine ∧ (d = .lst xs → T = "list") ∧ (d = .tup xs → T = "tuple") := by
  rcases hd with rfl | rfl
  · simp only [Val] at ha
    obtain ⟨p, vs, rfl, h1, r1⟩ := ha
    cases rx
    obtain ⟨its, rv, pt, hz⟩ := I.list (.inl h1)
    obtain ⟨o, e1, e2, n, e3⟩ := pt.isList
    exact ⟨p, vs, its, "list", o, n, rfl, r1, rv, .inl rfl, e1, e2, e3, hz, (fun _ => rfl), (fun z => nomatch z)⟩
  · simp only [Val, Rep] at ha
    obtain ⟨p, vs, rfl, h1, r1⟩ := ha
    cases rx
    rw [hG] at h1
    obtain ⟨its, rv, pt, hz⟩ := I.tuple h1
    obtain ⟨o, e1, e2, n, e3⟩ := pt
    exact ⟨p, vs, its, "tuple", o, n, rfl, r1, rv, .inr rfl, e1, e2, e3, hz, (fun z => nomatch z), fun _ => rfl⟩
end
section
variable {prog : Program} {w : World} {A : Around} {E : Value → Shared → Prop} {s : Shared}
theorem sort_seq {β : Type} {R : Value → β → Prop} {enc : β → PyData} {bs : List β} {T : String} {l : Addr} {o : Obj} {its : List Value} {n : Nat} {rev : Bool} {kw : List (Str × Value)} {Q : Value → Shared → Prop}
    (hT : T = "list" ∨ T = "tuple") (ho : s.heap.get? l = some o) (hc : o.cls = .type T) (hd : o.data = .seq its.toArray n) (hz : its.length ≤ sizeLine) (e : PySem.W.EachIs R its bs) (er : PySem.W.EachIs (fun u b => ∃ as, Reads s.heap u (enc b) as) its bs)
    (hal : PySem.W.AllAlike (bs.map enc)) (hk : PySem.W.Sortable (bs.map enc)) (hu : ∀ b ∈ bs, A.units + 2 + (enc b).depth < cLine) (hkw : (kw = [] ∧ rev = false) ∨ kw = [(Str.ofString "reverse", Value.bool rev)])
    (h : ∀ (out : List Value) (h1 h' : Heap) (a : Addr) (c : Nat), PySem.W.EachIs R out (bs.mergeSort (PySem.W.dataLe rev enc)) → (∀ b o, s.heap.get? b = some o → h1.get? b = some o) → (∀ b o, h1.get? b = some o → h'.get? b = some o) → h1.objs.size ≤ a → h'.get? a = some (seqObj "list" out.toArray c) → Q (.ref a) { heap := h', gens := s.gens, drawn := s.drawn, toks := s.toks, os := s.os }) :
    wpAny (model prog w) A (PySem.call (Value.builtin "sorted") [Value.ref l] kw) Q E s := by
  refine call_function_entry_kw kind_sorted plain_sorted entry_sorted (by
    rcases hkw with ⟨rfl, _⟩ | rfl
    · exact args_sorted1 _
    · exact args_sorted_rev _ _) ?_
  show wpAny _ _ (checkCount "sorted" 1 1 1 >>= fun _ => _) _ _ _
  refine wpAny_bind (wpAny_pure (wpAny_bind (wpAny_collect_seq l hT ho hc hd (fun h1 old => ?_) (by simpa using hz))))
  refine wpAny_bind (wpAny_newList ?_ (by simpa using hz))
  have hat : (h1.push { cls := .type "list", data := .seq its.toArray }).get? h1.objs.size = some (seqObj "list" its.toArray 0) := Heap.get?_push_size _ rfl
  refine wpAny_bind (wpAny_holding (wpAny_call_entry_kw slot_list_sort ⟨_, hat, rfl⟩ entry_list_sort ?_ (by
    rcases hkw with ⟨rfl, _⟩ | rfl
    · exact args_list_sort _
    · exact args_list_sort_rev _ _)))
  have old2 : ∀ {vs2 : List Value} {b : Addr} {ob : Obj}, h1.get? b = some ob → (PySem.W.sortingHeap (h1.push { cls := .type "list", data := .seq its.toArray }) h1.objs.size vs2).get? b = some ob := fun {vs2 b ob} hb => by
    have hne : b ≠ h1.objs.size := fun z => by
      exact Nat.lt_irrefl _ (z ▸ Heap.lt_size hb)
    exact PySem.W.sortingHeap_old hne (Heap.get?_push_of_some _ hb)
  have er' : PySem.W.EachIs (fun u b => ∃ as, Reads (PySem.W.sortingHeap (h1.push { cls := .type "list", data := .seq its.toArray }) h1.objs.size its) u (enc b) as) its bs := PySem.W.EachIs.mono (fun _ _ ⟨as, r⟩ => ⟨as, Reads.keeps (fun _ _ z => old2 (old _ _ z)) r⟩) er
  have S := PySem.W.SortsAt.data (prog := prog) (w := w) (A := A.in1.in1) (s := { heap := PySem.W.sortingHeap (h1.push { cls := .type "list", data := .seq its.toArray }) h1.objs.size its, gens := s.gens, drawn := s.drawn, toks := s.toks, os := s.os }) (PySem.W.each_map enc er') hal hk (PySem.W.bound_map hu)
  have hv := PySem.W.sortVals_data (h' := PySem.W.sortingHeap (h1.push { cls := .type "list", data := .seq its.toArray }) h1.objs.size its) rev e er' hal
  have fin : ∀ out, PySem.W.EachIs R out (bs.mergeSort (PySem.W.dataLe rev enc)) → Q (.ref h1.objs.size) { heap := sortedHeap (h1.push { cls := .type "list", data := .seq its.toArray }) h1.objs.size its out.toArray, gens := s.gens, drawn := s.drawn, toks := s.toks, os := s.os } := fun out ho => by
    obtain ⟨c, hc⟩ := sortedHeap_at (out := out.toArray) hat
    refine h out h1 _ _ c ho old (fun b ob hb => ?_) (Nat.le_refl _) hc
    have hlt := Heap.lt_size hb
    rw [sortedHeap_old (Nat.ne_of_lt hlt) (by rw [size_push']; exact Nat.lt_succ_of_lt hlt)]
    exact Heap.get?_push_of_some _ hb
  rcases hkw with ⟨rfl, rfl⟩ | rfl
  · exact PySem.W.list_sort_vals hat S hz ⟨_, rfl, wpAny_pure ⟨_, rfl, fin _ hv⟩⟩
  · exact PySem.W.list_sort_rev_vals hat S hz ⟨_, rfl, wpAny_pure ⟨_, rfl, fin _ hv⟩⟩
end
theorem minD_mem (f : PyData → PyData → Bool) : ∀ (ps : List PyData) (p : PyData), ps.foldl (fun a y => if f a y = true then y else a) p ∈ p :: ps
  | [], p => by simp
  | q :: ps, p => by
    rw [List.foldl_cons]
    have := minD_mem f ps (if f p q = true then q else p)
    rcases List.mem_cons.mp this with h | h
    · rw [h]
      split <;> simp
    · exact List.mem_cons_of_mem _ (List.mem_cons_of_mem _ h)
theorem isPN_ne {p : PyData} (h : isPN p = false) : p ≠ .none := fun z => by rw [z] at h; cases h
theorem okAll_iff {ps : List PyData} (h : okAll ps = true) : PySem.W.AlikeAll ps ∧ PyData.depthAll ps ≤ 60 := by
  unfold okAll at h
  simp only [Bool.and_eq_true, List.all_eq_true, decide_eq_true_eq, Bool.not_eq_true'] at h
  exact ⟨⟨fun x hx y hy => h.1.1 x hx y hy, fun x hx => isPN_ne (h.1.2 x hx)⟩, h.2⟩
theorem sortable_iff {ps : List PyData} (h : sortable ps = true) (n : ∀ p ∈ ps, p ≠ .none) : PySem.W.Sortable ps := by
  unfold sortable at h
  rw [Bool.or_eq_true, List.all_eq_true, List.all_eq_true] at h
  rcases h with h | h
  · refine .inl fun d hd => ?_
    have := h d hd
    unfold isTupC at this
    split at this
    · exact ⟨_, _, rfl⟩
    · cases this
  · refine .inr fun d hd => ⟨n d hd, fun xs z => ?_⟩
    have := h d hd
    rw [z] at this
    cases this
theorem depth_le : ∀ {ps : List PyData} {p : PyData}, p ∈ ps → p.depth ≤ PyData.depthAll ps := by
  intro ps
  induction ps with
  | nil => intro p h; cases h
  | cons q ps ih =>
    intro p h
    have e : PyData.depthAll (q :: ps) = max q.depth (PyData.depthAll ps) := by simp only [PyData.depthAll]
    rw [e]
    rcases List.mem_cons.mp h with rfl | h
    · omega
    · have := ih h; omega
theorem notLst_eq {d d' : D} (h : notLst d = some d') : d' = d ∧ ∀ xs, d ≠ .lst xs := by
  unfold notLst at h
  split at h
  · cases h
  · rename_i n
    cases h
    exact ⟨rfl, n⟩
theorem minF_flat {k : PyData → List PyData → PyData} {xs : List D} {d : D} (e : minF k xs = some d) : ∀ ys, d ≠ .lst ys := by
  unfold minF at e
  rw [Option.bind_eq_some_iff] at e
  obtain ⟨ps, _, e⟩ := e
  cases ps with
  | nil => cases e
  | cons p ps =>
    simp only [Option.ite_none_right_eq_some] at e
    obtain ⟨e1, e2⟩ := notLst_eq e.2
    rw [e1]; exact e2
theorem pyL_ints : ∀ is : List Int, pyL (is.map D.int) = some (is.map PyData.int)
  | [] => rfl
  | i :: r => by simp only [List.map_cons, pyL, py, pyL_ints r, Option.bind_some]
theorem depth_ints : ∀ is : List Int, PyData.depthAll (is.map PyData.int) ≤ 60
  | [] => by simp only [List.map_nil, PyData.depthAll]; omega
  | i :: r => by
    have := depth_ints r
    simp only [List.map_cons, PyData.depthAll, PyData.depth]; omega
theorem okAll_ints (is : List Int) : okAll (is.map PyData.int) = true := by
  unfold okAll
  simp only [Bool.and_eq_true, List.all_eq_true, decide_eq_true_eq, Bool.not_eq_true', List.mem_map]
  refine ⟨⟨?_, ?_⟩, depth_ints is⟩
  · rintro x ⟨i, _, rfl⟩ y ⟨j, _, rfl⟩; rfl
  · rintro x ⟨i, _, rfl⟩; rfl
theorem sortF_ints (is : List Int) : sortF false (is.map D.int) = some (.lst ((is.mergeSort fun a b => decide (a ≤ b)).map D.int)) := by
  unfold sortF
  have hs : sortable (is.map PyData.int) = true := by
    unfold sortable
    rw [Bool.or_eq_true]
    right
    rw [List.all_eq_true]
    intro x hx
    obtain ⟨i, _, rfl⟩ := List.mem_map.mp hx
    rfl
  rw [pyL_ints, Option.bind_some, if_pos ⟨okAll_ints is, hs⟩]
  have e : (is.mergeSort fun a b => decide (a ≤ b)).map PyData.int = (is.map PyData.int).mergeSort (PySem.W.dataLe false id) := List.map_mergeSort fun a _ b _ => by
      rw [PySem.W.dataLe_eq]
      simp only [id, cond_false, PySem.W.dataLt_int]
      by_cases h : a ≤ b
      · rw [decide_eq_true h, decide_eq_false (by omega)]; rfl
      · rw [decide_eq_false h, decide_eq_true (by omega)]; rfl
  rw [← e, List.map_map]
  rfl
section
variable {X : Cx} {G : Gx}
theorem op_sort (hG : G.K = X.K) (hu : X.A.units + 65 < cLine) {rev : Bool} {kw : List (Str × Value)} (hkw : (kw = [] ∧ rev = false) ∨ kw = [(Str.ofString "reverse", Value.bool rev)]) {pins : List (Addr × Obj)} {s : Shared} {σ : L2.St} {H : Hp} {L : Addr → Prop} {φ : List Addr} {xs : List D} {a d : D} {x : V} {v : Value} {Q : VK}
    (I : Inv X pins σ H s) (hd : a = .lst xs ∨ a = .tup xs) (ha : Val G L φ H a x) (rx : RelV x v) (hL : ∀ a, L a → H a ≠ none) (e : sortF rev xs = some d) (q : ∀ v H', OpPost G L φ H d v H' → Q v H') :
    wpAny (model X.prog X.w) X.A (PySem.call (Value.builtin "sorted") [v] kw) (EP X pins σ Q) X.xe s := by
  unfold sortF at e
  simp only [Option.bind_eq_some_iff, Option.ite_none_right_eq_some, Option.some.injEq] at e
  obtain ⟨ps, ep, ⟨c1, c2⟩, rfl⟩ := e
  obtain ⟨⟨al1, al2⟩, dp⟩ := okAll_iff c1
  obtain ⟨l, vs, its, T, o, n, rfl, rl, rv, hT, ho, hc, hdt, hz, _, _⟩ := seq_at hG I hd ha rx
  obtain ⟨bs, b1, b2, b3, b4⟩ := trips hG I xs vs ps its rl ep rv
  have hz' : its.length ≤ sizeLine := by rw [← rv.length]; exact hz
  refine sort_seq (enc := fun b : Tri => b.2.2) hT ho hc hdt hz' b3 b4 (by rw [b2]; exact al1) (by rw [b2]; exact sortable_iff c2 al2) (fun b hb => ?_) hkw fun out h1 h' p c ho k1 k2 hp hat => ?_
  · have := depth_le (ps := ps) (p := b.2.2) (by rw [← b2]; exact List.mem_map_of_mem hb)
    omega
  · obtain ⟨o1, o2, o3⟩ := each_out ho
    have I1 := I.kept (t' := s.toks) k1
    have em : (bs.mergeSort (PySem.W.dataLe rev fun b : Tri => b.2.2)).map (·.2.2) = ps.mergeSort (PySem.W.dataLe rev id) := by
      rw [← b2]
      exact List.map_mergeSort fun a _ b _ => by simp only [PySem.W.dataLe_eq, id]
    rw [em] at o3
    have np : H p = none := I1.hok.fresh hp
    refine ⟨.ref p, _, I1.laid (t' := s.toks) (o := .lst ((bs.mergeSort (PySem.W.dataLe rev fun b : Tri => b.2.2)).map (·.2.1))) k2 hp ?_, rfl, q _ _ ?_⟩
    · refine ⟨?_, out, c, o1, hat⟩
      have z1 := o1.length
      have z2 := PySem.W.EachIs.length ho
      rw [List.length_mergeSort] at z2
      have z3 := PySem.W.EachIs.length b3
      omega
    · rw [o3]
      exact OpPost.newLst hL o2 np
theorem op_best (hG : G.K = X.K) {nm : String} {k : PyData → List PyData → PyData} {pins : List (Addr × Obj)} {s : Shared} {σ : L2.St} {H : Hp} {L : Addr → Prop} {φ : List Addr} {xs : List D} {a d : D} {x : V} {v : Value} {Q : VK}
    (hk : ∀ p ps, k p ps ∈ p :: ps)
    (hl : ∀ {l : Addr} {vs : Array Value} {y : PyData} {ys : List PyData} {as : List Addr} {Q : Value → Shared → Prop}, (s.heap.IsList l vs ∨ s.heap.IsTuple l vs) → ReadsAll s.heap vs.toList (y :: ys) as → PySem.W.AlikeAll (y :: ys) → PyData.depthAll (y :: ys) ≤ 60 →
      (∀ (i : Nat) (v : Value) (h' : Heap) (tk : Nat) (bs : List Addr), vs[i]? = some v → Reads h' v (k y ys) bs → (∀ (b : Addr) (o : Obj), s.heap.get? b = some o → h'.get? b = some o) → Q v { heap := h', gens := s.gens, drawn := s.drawn, toks := tk, os := s.os }) →
      wpAny (model X.prog X.w) X.A (PySem.call (Value.builtin nm) [Value.ref l]) Q X.xe s)
    (I : Inv X pins σ H s) (hd : a = .lst xs ∨ a = .tup xs) (ha : Val G L φ H a x) (rx : RelV x v) (e : minF k xs = some d) (q : ∀ v, Rep G L φ H d v → Q v H) :
    wpAny (model X.prog X.w) X.A (PySem.call (Value.builtin nm) [v]) (EP X pins σ Q) X.xe s := by
  unfold minF at e
  rw [Option.bind_eq_some_iff] at e
  obtain ⟨ps, ep, e⟩ := e
  cases ps with
  | nil => cases e
  | cons p ps =>
    simp only [Option.ite_none_right_eq_some] at e
    obtain ⟨c1, e⟩ := e
    have := (notLst_eq e).1
    subst this
    obtain ⟨⟨al1, al2⟩, dp⟩ := okAll_iff c1
    obtain ⟨l, vs, its, T, o, n, rfl, rl, rv, hT, ho, hc, hdt, hz, _, _⟩ := seq_at hG I hd ha rx
    obtain ⟨as, ra⟩ := Dp.readsAll I (p :: ps) vs its (RepL.dp hG xs vs (p :: ps) rl ep) rv
    refine hl (vs := its.toArray) (as := as) ?_ (by simpa using ra) ⟨al1, al2⟩ dp fun i u h' tk bs hu hr k1 => ?_
    · rcases hT with rfl | rfl
      · exact .inl ⟨o, ho, hc, n, hdt⟩
      · exact .inr ⟨o, ho, hc, n, hdt⟩
    · have I1 := I.kept (t' := tk) k1
      have hu' : its[i]? = some u := by simpa using hu
      obtain ⟨bs2, r2, hi, hm, _⟩ := PySem.W.readsAll_at ra i u hu'
      have e1 : (p :: ps).getD i PyData.none = k p ps := PySem.W.alike_unique _ _ u bs2 bs (al1 _ hm _ (hk p ps)) (Reads.keeps k1 r2) hr
      have hv : i < vs.length := by
        have := rv.length
        have := (List.getElem?_eq_some_iff.mp hu').1
        omega
      obtain ⟨u2, e2, rr⟩ := Vals.get rv (List.getElem?_eq_getElem hv)
      rw [hu'] at e2
      cases e2
      have hx : i < xs.length := by have := rl.length; omega
      obtain ⟨y, e3, ry⟩ := rl.get (List.getElem?_eq_getElem hx)
      rw [List.getElem?_eq_getElem hv] at e3
      cases e3
      refine ⟨_, H, I1, rr, q _ ?_⟩
      have e4 := dOfL_py xs (p :: ps) ep
      have e5 : dOf (k p ps) = xs[i] := by
        have key : ∀ (qs : List PyData) (ys : List D) (j : Nat) (hj : j < ys.length), dOf.dOfL qs = ys → dOf (qs.getD j PyData.none) = ys[j] := by
          intro qs
          induction qs with
          | nil => intro ys j hj e; simp only [dOf.dOfL] at e; subst e; simp at hj
          | cons q qs ih =>
            intro ys j hj e
            simp only [dOf.dOfL] at e
            subst e
            cases j with
            | zero => rfl
            | succ j => exact ih (dOf.dOfL qs) j (by simpa using hj) rfl
        rw [← e1]
        exact key (p :: ps) xs i hx e4
      rw [e5]
      exact ry
theorem op_min (hG : G.K = X.K) (hc : X.calm = true) (hu : X.A.units + 65 < cLine) {pins : List (Addr × Obj)} {s : Shared} {σ : L2.St} {H : Hp} {L : Addr → Prop} {φ : List Addr} {xs : List D} {a d : D} {x : V} {v : Value} {Q : VK}
    (I : Inv X pins σ H s) (hd : a = .lst xs ∨ a = .tup xs) (ha : Val G L φ H a x) (rx : RelV x v) (e : minF PySem.W.minD xs = some d) (q : ∀ v, Rep G L φ H d v → Q v H) :
    wpAny (model X.prog X.w) X.A (PySem.call (Value.builtin "min") [v]) (EP X pins σ Q) X.xe s :=
  op_best hG (fun p ps => minD_mem (fun a y => PySem.W.dataLt y a) ps p) (fun {l vs y ys as Q} ht hr ha hd hq => by
    rcases ht with ht | ht
    · exact PySem.W.min_list_data (I.ok.hd hc) ht hr ha (by omega) hq
    · exact PySem.W.min_tuple_data (I.ok.hd hc) ht hr ha (by omega) hq) I hd ha rx e q
theorem op_max (hG : G.K = X.K) (hc : X.calm = true) (hu : X.A.units + 65 < cLine) {pins : List (Addr × Obj)} {s : Shared} {σ : L2.St} {H : Hp} {L : Addr → Prop} {φ : List Addr} {xs : List D} {a d : D} {x : V} {v : Value} {Q : VK}
    (I : Inv X pins σ H s) (hd : a = .lst xs ∨ a = .tup xs) (ha : Val G L φ H a x) (rx : RelV x v) (e : minF PySem.W.maxD xs = some d) (q : ∀ v, Rep G L φ H d v → Q v H) :
    wpAny (model X.prog X.w) X.A (PySem.call (Value.builtin "max") [v]) (EP X pins σ Q) X.xe s :=
  op_best hG (fun p ps => minD_mem (fun a y => PySem.W.dataLt a y) ps p) (fun {l vs y ys as Q} ht hr ha hd hq => by
    rcases ht with ht | ht
    · exact PySem.W.max_list_data (I.ok.hd hc) ht hr ha (by omega) hq
    · exact PySem.W.max_tuple_data (I.ok.hd hc) ht hr ha (by omega) hq) I hd ha rx e q
end
end M
set_option Elab.async false
set_option linter.all false
set_option maxRecDepth 100000
set_option maxHeartbeats 4000000
namespace M
open PySem PySem.Spec PyProof.Rows L2
section
variable {prog : Program} {w : World} {A : Around} {E : Value → Shared → Prop} {s : Shared}
theorem tupleIsExact_ {t : Addr} {items : Array Value} {Q : Bool → Shared → Prop} (ht : IsTup s.heap t items) (h : Q true s) : wpAny (model prog w) A (Builtin.Tuple.tupleIsExact (.ref t)) Q E s := by
  unfold Builtin.Tuple.tupleIsExact
  refine wpAny_bind (wpAny_typeOf ht.typeIs ?_)
  exact wpAny_pure h
open HT in
theorem getItem_tuple_whole {t sl : Addr} {items : Array Value} {vl vu : Value} {lo hi : Option Int} {Q : Value → Shared → Prop} (ht : IsTup s.heap t items) (hs : s.heap.IsSliceOf sl vl vu .none) (pl : IsPart vl lo) (pu : IsPart vu hi)
    (hw : (sIx items.size 0 lo = 0 ∧ sIx items.size items.size hi = items.size))
    (h : Q (.ref t) s) : wpAny (model prog w) A (getItem (.ref t) (.ref sl)) Q E s := by
  obtain ⟨os, hos, hcs, hds⟩ := id hs
  have hTs : s.TypeIs (.ref sl) "slice" := ⟨os, hos, hcs⟩
  unfold getItem
  try with_reducible refine wpAny_holding ?_
  first | refine wpAny_bind (wpAny_pure ?_) | skip
  refine wpAny_bind (wpAny_sequenceKey ht.typeIs (by decide) ?_)
  refine wpAny_bind (wpAny_callSpecial?_slot (name := Str.ofString "__getitem__") ht.typeIs PyProof.Rows.slot_tuple_getitem
    (wpAny_call_entry PyProof.Rows.slot_tuple_getitem ht.typeIs entry_tuple_getitem ?_ (args_tuple_getitem _ _)))
  show wpAny _ _ (Builtin.Tuple.tupleItemsOf (.ref t) >>= _) _ _ s
  refine wpAny_bind (tupleItemsOf_ ht ?_)
  refine wpAny_bind (wpAny_typeOf hTs ?_)
  rw [if_pos (by decide)]
  refine wpAny_bind (sliceApplied_gen hs pl pu ?_)
  have hno : ((((sIx items.size 0 lo : Nat) : Int) == 0 && (1 : Int) == 1 && (sIx items.size items.size hi - sIx items.size 0 lo) == items.size) = true) := by
    rw [hw.1, hw.2]; simp
  show wpAny _ _ (if (((sIx items.size 0 lo : Nat) : Int) == 0 && (1 : Int) == 1 && (sIx items.size items.size hi - sIx items.size 0 lo) == items.size) = true then _ else _) _ _ s
  rw [if_pos hno]
  refine wpAny_bind (tupleIsExact_ ht ?_)
  show wpAny _ _ (rule "tuple.getitem.whole" >>= _) _ _ s
  refine wpAny_bind (wpAny_rule ?_)
  first
    | exact wpAny_pure ⟨_, rfl, wpAny_pure h⟩
    | exact wpAny_bind (wpAny_pure (wpAny_pure ⟨_, rfl, wpAny_pure h⟩))
    | exact wpAny_bind (wpAny_pure ⟨_, rfl, wpAny_pure h⟩)
end
section
variable {X : Cx} {G : Gx}
theorem sl_tupW : SlR X (fun x lo hi H Q => ∃ a xs, x = .ref a ∧ SqT X.K H a xs ∧ (HT.sIx xs.length 0 lo = 0 ∧ HT.sIx xs.length xs.length hi = xs.length) ∧ Q (.ref a) H) := by
  intro pins s σ H x v vl vu lo hi sl Q I rx hs pl pu h
  obtain ⟨a, xs, rfl, hx, hw, q⟩ := h
  cases rx
  obtain ⟨its, r, ht, hz⟩ := I.tuple hx
  have hlen : its.toArray.size = xs.length := by rw [List.size_toArray]; exact r.length.symm
  refine ⟨"tuple", _, PyProof.Rows.slot_tuple_getitem.lookup, ht.typeIs, ?_⟩
  exact getItem_tuple_whole ht hs pl pu (by rw [hlen]; exact hw) ⟨.ref a, H, I, rfl, q⟩
def rSl (G : Gx) : V → Option Int → Option Int → Hp → VK → Prop := fun x lo hi H Q => ∃ (L : Addr → Prop) (φ : List Addr) (a d : D), (∀ a, L a → H a ≠ none) ∧ Val G L φ H a x ∧ sliceF lo hi a = some d ∧ ∀ v H', OpPost G L φ H d v H' → Q v H'
theorem cut_rep {L : Addr → Prop} {φ : List Addr} {H : Hp} {xs : List D} {vs : List V} (h : RepL G L φ H xs vs) (lo hi : Option Int) : RepL G L φ H (cutD xs lo hi) (cutV vs lo hi) := by
  unfold cutD cutV
  rw [h.length]
  exact (h.drop _).take _
theorem cut_whole {α : Type} {xs : List α} {i j : Nat} (h1 : i = 0) (h2 : j = xs.length) : (xs.drop i).take (j - i) = xs := by
  subst h1 h2; simp
theorem op_slice (hG : G.K = X.K) : SlR X (rSl G) := by
  intro pins s σ H x v vl vu lo hi sl Q I rx hs pl pu h
  obtain ⟨L, φ, a, d, hL, ha, e, q⟩ := h
  unfold sliceF at e
  split at e
  · rename_i xs
    cases e
    simp only [Val, Rep] at ha
    obtain ⟨b, vs, rfl, h1, r1⟩ := ha
    rw [hG] at h1
    by_cases hw : HT.sIx vs.length 0 lo = 0 ∧ HT.sIx vs.length vs.length hi = vs.length
    · refine sl_tupW pins s σ H _ v vl vu lo hi sl Q I rx hs pl pu ⟨b, vs, rfl, h1, hw, q _ _ (OpPost.flat ?_ (fun _ e => nomatch e))⟩
      rw [← hG] at h1
      have e : cutD xs lo hi = xs := by
        unfold cutD
        rw [r1.length]
        exact cut_whole hw.1 (by rw [hw.2, r1.length])
      rw [e]
      simp only [Rep]
      exact ⟨b, vs, rfl, h1, r1⟩
    · exact sl_tup pins s σ H _ v vl vu lo hi sl Q I rx hs pl pu ⟨b, vs, rfl, h1, hw, fun p np => q _ _ (OpPost.newTup (cut_rep r1 lo hi) np)⟩
  · rename_i xs
    cases e
    simp only [Val] at ha
    obtain ⟨b, vs, rfl, h1, r1⟩ := ha
    exact sl_list pins s σ H _ v vl vu lo hi sl Q I rx hs pl pu ⟨b, vs, rfl, .inl h1, fun p np => q _ _ (OpPost.newLst hL (cut_rep r1 lo hi) np)⟩
  · cases e
/-! ### an item -/
def rIdx (G : Gx) : R2 := fun x y H Q => ∃ (L : Addr → Prop) (φ : List Addr) (a b d : D), Val G L φ H a x ∧ Rep G L φ H b y ∧ idxF a b = some d ∧ ∀ v, Rep G L φ H d v → Q v H
theorem atI_rep {L : Addr → Prop} {φ : List Addr} {H : Hp} {xs : List D} {vs : List V} (h : RepL G L φ H xs vs) {i : Int} {d : D} (e : atI xs i = some d) : ∃ v, atI vs i = some v ∧ Rep G L φ H d v := by
  unfold atI at e ⊢
  rw [h.length] at e
  obtain ⟨j, e1, e2⟩ := Option.bind_eq_some_iff.mp e
  obtain ⟨v, e3, r⟩ := h.get e2
  exact ⟨v, by rw [e1]; exact e3, r⟩
theorem op_idx (hG : G.K = X.K) : IxR X (rIdx G) := by
  intro value slice pins s σ H x y v u Q I rx ry h hs
  obtain ⟨L, φ, a, b, d, ha, hb, e, q⟩ := h
  unfold idxF at e
  split at e
  · simp only [Val, Rep] at ha hb
    subst hb
    obtain ⟨p, vs, rfl, h1, r1⟩ := ha
    rw [hG] at h1
    obtain ⟨w, e1, r⟩ := atI_rep r1 e
    exact ix_tup value slice pins s σ H _ _ v u Q I rx ry ⟨p, vs, _, w, rfl, rfl, h1, e1, q w r⟩ hs
  · simp only [Val, Rep] at ha hb
    subst hb
    obtain ⟨p, vs, rfl, h1, r1⟩ := ha
    obtain ⟨w, e1, r⟩ := atI_rep r1 e
    exact ix_list value slice pins s σ H _ _ v u Q I rx ry ⟨p, vs, _, w, rfl, rfl, .inl h1, e1, q w r⟩ hs
  · cases e
/-! ### truth -/
theorem tru_rep (hG : G.K = X.K) {L : Addr → Prop} {φ : List Addr} {H : Hp} {d : D} {v : V} {k : Bool} (h : Val G L φ H d v) (e : tru d = some k) : TruV X.K v H k := by
  unfold tru at e
  split at e
  · cases e; simp only [Val, Rep] at h; subst h; rfl
  · cases e; simp only [Val, Rep] at h; subst h; rfl
  · cases e; simp only [Val, Rep] at h; subst h; rfl
  · cases e
    simp only [Val, Rep] at h
    obtain ⟨a, vs, rfl, h1, r⟩ := h
    refine .inr (.inl ⟨vs, hG ▸ h1, ?_⟩)
    have := r.length
    cases vs with
    | nil => rw [List.length_nil, List.length_eq_zero_iff] at this; subst this; rfl
    | cons v vs =>
      cases ‹List D› with
      | nil => simp at this
      | cons => rfl
  · cases e
    simp only [Val] at h
    obtain ⟨a, vs, rfl, h1, r⟩ := h
    refine .inl ⟨vs, .inl h1, ?_⟩
    have := r.length
    cases vs with
    | nil => rw [List.length_nil, List.length_eq_zero_iff] at this; subst this; rfl
    | cons v vs =>
      cases ‹List D› with
      | nil => simp at this
      | cons => rfl
  · cases e
/-! ### isinstance -/
def tyS : Ty → String
  | .int => "int" | .bool => "bool" | .str => "str" | .tuple => "tuple" | .list => "list"
def tyOf : D → Option Value
  | .non => some (.type "NoneType")
  | .bl _ => some (.type "bool")
  | .int _ => some (.type "int")
  | .str _ => some (.type "str")
  | .tup _ => some (.type "tuple")
  | .lst _ => some (.type "list")
  | _ => none
theorem ty_rep (hG : G.K = X.K) {L : Addr → Prop} {φ : List Addr} {H : Hp} {d : D} {v : V} {t : Value} (h : Val G L φ H d v) (e : tyOf d = some t) : TyX X.K H v t := by
  cases d <;> simp only [tyOf, Option.some.injEq] at e
  case non => simp only [Val, Rep] at h; subst h e; exact .base .non
  case bl => simp only [Val, Rep] at h; subst h e; exact .base (.bl _)
  case int => simp only [Val, Rep] at h; subst h e; exact .base (.int _)
  case str => simp only [Val, Rep] at h; subst h e; exact .base (.str _)
  case tup =>
    simp only [Val, Rep] at h
    obtain ⟨a, vs, rfl, h1, _⟩ := h
    subst e
    rw [hG] at h1
    rcases h1 with (h1 | ⟨o, h1⟩) | ⟨o, its, n, h1, h2, _⟩
    · exact .base (.tup h1)
    · exact .fTuple h1
    · exact .kTuple h1 h2
  case lst =>
    simp only [Val] at h
    obtain ⟨a, vs, rfl, h1, _⟩ := h
    subst e
    rcases h1 with h1 | ⟨o, h1⟩
    · exact .base (.lst h1)
    · exact .base (.frz h1)
  all_goals cases e
theorem isTy_kit {d : D} {t : Ty} {b : Bool} (e : isTy d t = some b) : ∃ u, tyOf d = some u ∧ PySem.W.kitOne X.K u (.type (tyS t)) = some b := by
  cases d <;> cases t <;> simp only [isTy, Option.some.injEq] at e
  all_goals first
    | (subst e; exact ⟨_, rfl, kit_ty (by decide +kernel)⟩)
    | cases e
theorem isTys_kit : ∀ {d : D} {ts : List Ty} {b : Bool} {u : Value}, tyOf d = some u → isTys d ts = some b → PySem.W.kitAny X.K u (ts.map fun t => .type (tyS t)) = some b
  | d, [], b, u, _, e => by
    simp only [isTys, Option.some.injEq] at e; subst e; rfl
  | d, t :: ts, b, u, hu, e => by
    simp only [isTys, Option.bind_eq_some_iff, Option.some.injEq] at e
    obtain ⟨c, e1, r, e2, rfl⟩ := e
    obtain ⟨u', hu', k⟩ := isTy_kit (X := X) e1
    rw [hu] at hu'; cases hu'
    rw [List.map_cons]
    have ih := isTys_kit hu e2
    cases c with
    | true => exact kitAny_cons k (fun z => nomatch z) (fun _ => rfl)
    | false => exact kitAny_cons k (fun _ => by simpa using ih) (fun z => nomatch z)
/-- isinstance by values: one class; a tuple of classes, laid at tp -/
def rIs1 (G : Gx) (t : Ty) : List V → Hp → VK → Prop := fun xs H Q => ∃ (L : Addr → Prop) (φ : List Addr) (a : D) (x : V) (b : Bool), xs = [x, .ty (tyS t)] ∧ Val G L φ H a x ∧ isTys a [t] = some b ∧ Q (.bl b) H
theorem call_is1 (hG : G.K = X.K) (t : Ty) : CallR X (.builtin "isinstance") (rIs1 G t) := by
  intro pins s σ H xs us Q I r h
  obtain ⟨L, φ, a, x, b, rfl, ha, e, q⟩ := h
  simp only [isTys, Option.bind_eq_some_iff, Option.some.injEq] at e
  obtain ⟨c, e1, _, rfl, rfl⟩ := e
  obtain ⟨u, hu, k⟩ := isTy_kit (X := X) e1
  exact call_isi pins s σ H _ us Q I r ⟨x, .ty (tyS t), u, _, c, rfl, .ty _, ty_rep hG ha hu, k, by simpa using q⟩
def rIsN (G : Gx) (ts : List Ty) : List V → Hp → VK → Prop := fun xs H Q => ∃ (L : Addr → Prop) (φ : List Addr) (a : D) (x : V) (tp : Addr) (b : Bool), xs = [x, .ref tp] ∧ H tp = some (.tup (ts.map fun t => V.ty (tyS t))) ∧ Val G L φ H a x ∧ ts ≠ [] ∧ isTys a ts = some b ∧ Q (.bl b) H
theorem cls_all : ∀ ts : List Ty, Paired ClsV (ts.map fun t => V.ty (tyS t)) (ts.map fun t => Value.type (tyS t))
  | [] => .nil
  | t :: ts => .cons (.ty _) (cls_all ts)
theorem isTys_some : ∀ {d : D} {ts : List Ty} {b : Bool}, ts ≠ [] → isTys d ts = some b → ∃ u, tyOf d = some u
  | d, [], b, n, e => absurd rfl n
  | d, t :: ts, b, n, e => by
    simp only [isTys, Option.bind_eq_some_iff, Option.some.injEq] at e
    obtain ⟨c, e1, _⟩ := e
    cases d <;> first
      | exact ⟨_, rfl⟩
      | (cases t <;> simp only [isTy] at e1 <;> cases e1)
theorem call_isN (hG : G.K = X.K) (ts : List Ty) : CallR X (.builtin "isinstance") (rIsN G ts) := by
  intro pins s σ H xs us Q I r h
  obtain ⟨L, φ, a, x, tp, b, rfl, hT, ha, n, e, q⟩ := h
  obtain ⟨u, hu⟩ := isTys_some n e
  exact call_isiT pins s σ H _ us Q I r ⟨x, tp, _, u, _, b, rfl, hT, cls_all ts, ty_rep hG ha hu, isTys_kit hu e, q⟩
/-! ### built-ins of one argument -/
def rB (G : Gx) (F : D → Option D) : List V → Hp → VK → Prop := fun xs H Q => ∃ (L : Addr → Prop) (φ : List Addr) (a d : D) (x : V), xs = [x] ∧ (∀ a, L a → H a ≠ none) ∧ Val G L φ H a x ∧ F a = some d ∧ ∀ v H', OpPost G L φ H d v H' → Q v H'
theorem ints_rep {L : Addr → Prop} {φ : List Addr} {H : Hp} : ∀ {xs : List D} {vs : List V} {is : List Int}, RepL G L φ H xs vs → ints? xs = some is → vs = is.map V.int
  | [], _, _, h, e => by simp only [RepL, ints?, Option.some.injEq] at h e; subst h e; rfl
  | d :: ds, _, _, h, e => by
    simp only [RepL] at h
    obtain ⟨v, r, rfl, h1, h2⟩ := h
    cases d <;> simp only [ints?, Option.map_eq_some_iff] at e
    case int i =>
      obtain ⟨is, e1, rfl⟩ := e
      simp only [Rep] at h1
      subst h1
      rw [ints_rep h2 e1]; rfl
    all_goals cases e
theorem bls_rep {L : Addr → Prop} {φ : List Addr} {H : Hp} : ∀ {xs : List D} {vs : List V} {is : List Bool}, RepL G L φ H xs vs → bls? xs = some is → vs = is.map V.bl
  | [], _, _, h, e => by simp only [RepL, bls?, Option.some.injEq] at h e; subst h e; rfl
  | d :: ds, _, _, h, e => by
    simp only [RepL] at h
    obtain ⟨v, r, rfl, h1, h2⟩ := h
    cases d <;> simp only [bls?, Option.map_eq_some_iff] at e
    case bl i =>
      obtain ⟨is, e1, rfl⟩ := e
      simp only [Rep] at h1
      subst h1
      rw [bls_rep h2 e1]; rfl
    all_goals cases e
theorem rep_ints {L : Addr → Prop} {φ : List Addr} {H : Hp} : ∀ is : List Int, RepL G L φ H (is.map D.int) (is.map V.int)
  | [] => by simp only [List.map_nil, RepL]
  | i :: is => by simp only [List.map_cons, RepL, Rep]; exact ⟨_, _, rfl, rfl, rep_ints is⟩
theorem insI_perm (i : Int) : ∀ l, (insI i l).Perm (i :: l)
  | [] => .refl _
  | j :: r => by
    unfold insI
    split
    · exact .refl _
    · exact ((insI_perm i r).cons j).trans (.swap i j r)
theorem sortI_perm : ∀ l, (sortI l).Perm l
  | [] => .refl _
  | i :: r => (insI_perm i _).trans ((sortI_perm r).cons i)
theorem insI_sorted (i : Int) : ∀ {l : List Int}, l.Pairwise (· ≤ ·) → (insI i l).Pairwise (· ≤ ·)
  | [], _ => by simp [insI]
  | j :: r, h => by
    unfold insI
    rw [List.pairwise_cons] at h
    split
    · rename_i c
      rw [List.pairwise_cons]
      exact ⟨fun a ha => by rcases List.mem_cons.mp ha with rfl | ha; exact c; exact Int.le_trans c (h.1 a ha), List.pairwise_cons.mpr h⟩
    · rename_i c
      rw [List.pairwise_cons]
      refine ⟨fun a ha => ?_, insI_sorted i h.2⟩
      rcases List.mem_cons.mp ((insI_perm i r).mem_iff.mp ha) with rfl | ha
      · omega
      · exact h.1 a ha
theorem sortI_sorted : ∀ l : List Int, (sortI l).Pairwise (· ≤ ·)
  | [] => .nil
  | i :: r => insI_sorted i (sortI_sorted r)
theorem sorted_one : ∀ {l m : List Int}, l.Perm m → l.Pairwise (· ≤ ·) → m.Pairwise (· ≤ ·) → l = m := fun {l m} p hl hm => p.eq_of_pairwise (fun a b _ _ h1 h2 => Int.le_antisymm h1 h2) hl hm
def bltId : Blt → Value
  | .len => .builtin "len" | .abs => .builtin "abs" | .int => .type "int" | .tuple => .type "tuple" | .list => .type "list" | .sum => .builtin "sum" | .all => .builtin "all" | .any => .builtin "any" | .sorted => .builtin "sorted" | .min => .builtin "min" | .max => .builtin "max"
theorem op_blt (hG : G.K = X.K) (hc : X.calm = true) (hu : X.A.units + 65 < cLine) (b : Blt) : CallR X (bltId b) (rB G (bltF b)) := by
  intro pins s σ H xs us Q I r h
  obtain ⟨L, φ, a, d, x, rfl, hL, ha, e, q⟩ := h
  unfold bltF at e
  split at e
  · cases e
    simp only [Val, Rep] at ha
    obtain ⟨p, vs, rfl, h1, r1⟩ := ha
    rw [hG] at h1
    rw [r1.length] at q
    exact call_len_seq pins s σ H _ us Q I r ⟨p, vs, rfl, .inr h1, q _ _ OpPost.int⟩
  · cases e
    simp only [Val] at ha
    obtain ⟨p, vs, rfl, h1, r1⟩ := ha
    rw [r1.length] at q
    exact call_len_seq pins s σ H _ us Q I r ⟨p, vs, rfl, .inl (.inl h1), q _ _ OpPost.int⟩
  · cases e
    simp only [Val, Rep] at ha
    subst ha
    exact call_abs pins s σ H _ us Q I r ⟨_, rfl, q _ _ OpPost.int⟩
  · cases e
    simp only [Val, Rep] at ha
    subst ha
    exact call_int1 pins s σ H _ us Q I r (.inl ⟨_, rfl, q _ _ OpPost.int⟩)
  · cases e
    simp only [Val, Rep] at ha
    subst ha
    exact call_int1 pins s σ H _ us Q I r (.inr ⟨_, rfl, q _ _ OpPost.int⟩)
  · cases e
    have ha' := ha
    simp only [Val, Rep] at ha
    obtain ⟨p, vs, rfl, h1, r1⟩ := ha
    rw [hG] at h1
    exact call_tuple_of pins s σ H _ us Q I r ⟨p, vs, rfl, .inr ⟨h1, q _ _ (OpPost.flat ha' (fun _ e => nomatch e))⟩⟩
  · cases e
    simp only [Val] at ha
    obtain ⟨p, vs, rfl, h1, r1⟩ := ha
    exact call_tuple_of pins s σ H _ us Q I r ⟨p, vs, rfl, .inl ⟨.inl h1, fun l hl => q _ _ (OpPost.newTup r1 hl)⟩⟩
  · cases e
    simp only [Val, Rep] at ha
    obtain ⟨p, vs, rfl, h1, r1⟩ := ha
    rw [hG] at h1
    exact call_list_of pins s σ H _ us Q I r ⟨p, vs, rfl, .inr h1, fun l hl => q _ _ (OpPost.newLst hL r1 hl)⟩
  · cases e
    simp only [Val] at ha
    obtain ⟨p, vs, rfl, h1, r1⟩ := ha
    exact call_list_of pins s σ H _ us Q I r ⟨p, vs, rfl, .inl (.inl h1), fun l hl => q _ _ (OpPost.newLst hL r1 hl)⟩
  · rw [Option.map_eq_some_iff] at e
    obtain ⟨is, e, rfl⟩ := e
    simp only [Val] at ha
    obtain ⟨p, vs, rfl, h1, r1⟩ := ha
    have := ints_rep r1 e
    subst this
    exact cr_sum hc pins s σ H _ us Q I r ⟨p, is, rfl, .inl h1, q _ _ OpPost.int⟩
  · rw [Option.map_eq_some_iff] at e
    obtain ⟨is, e, rfl⟩ := e
    simp only [Val] at ha
    obtain ⟨p, vs, rfl, h1, r1⟩ := ha
    have := bls_rep r1 e
    subst this
    exact cr_all hc pins s σ H _ us Q I r ⟨p, is, rfl, .inl h1, q _ _ OpPost.bl⟩
  · rw [Option.map_eq_some_iff] at e
    obtain ⟨is, e, rfl⟩ := e
    simp only [Val] at ha
    obtain ⟨p, vs, rfl, h1, r1⟩ := ha
    have := bls_rep r1 e
    subst this
    exact cr_any hc pins s σ H _ us Q I r ⟨p, is, rfl, .inl h1, q _ _ OpPost.bl⟩
  · obtain ⟨u, rfl, ru⟩ := Vals.one r
    exact op_sort hG hu (.inl ⟨rfl, rfl⟩) I (.inl rfl) ha ru hL e q
  · obtain ⟨u, rfl, ru⟩ := Vals.one r
    exact op_sort hG hu (.inl ⟨rfl, rfl⟩) I (.inr rfl) ha ru hL e q
  · obtain ⟨u, rfl, ru⟩ := Vals.one r
    exact op_min hG hc hu I (.inl rfl) ha ru e fun v rv => q v H (OpPost.flat rv (minF_flat e))
  · obtain ⟨u, rfl, ru⟩ := Vals.one r
    exact op_min hG hc hu I (.inr rfl) ha ru e fun v rv => q v H (OpPost.flat rv (minF_flat e))
  · obtain ⟨u, rfl, ru⟩ := Vals.one r
    exact op_max hG hc hu I (.inl rfl) ha ru e fun v rv => q v H (OpPost.flat rv (minF_flat e))
  · obtain ⟨u, rfl, ru⟩ := Vals.one r
    exact op_max hG hc hu I (.inr rfl) ha ru e fun v rv => q v H (OpPost.flat rv (minF_flat e))
  · cases e
end
end M
set_option Elab.async false
set_option linter.all false
set_option maxRecDepth 100000
set_option maxHeartbeats 4000000
/-! The forms' readings, one rule a form. -/
namespace M
open PySem PySem.Spec PyProof.Rows L2

abbrev rd (G : Gx) (B : Store) (W : WX) (f : Env → Store → Out (D × Store)) : TE := tG G B W (PD G false) f
abbrev rdF (G : Gx) (B : Store) (W : WX) (f : Env → Store → Out (D × Store)) : TE := tG G B W (PD G true) f
abbrev rdT (G : Gx) (B : Store) (W : WX) (f : Env → Store → Out (Bool × Store)) : TT := tG G B W PB f
abbrev rdA (G : Gx) (B : Store) (W : WX) (f : Env → Store → Out (List D × Store)) : TA := tG G B W (PL G) f
abbrev rdO (G : Gx) (B : Store) (W : WX) (f : Env → Store → Out (Option Int × Store)) : TO := tG G B W POI f
@[simp] theorem hd_bl {τ : Store} {b : Bool} : hd τ (.bl b) = .bl b := rfl
@[simp] theorem tru_bl {b : Bool} : tru (.bl b) = some b := rfl
/-- a value's truth as an outcome -/
def tst (f : Env → Store → Out (D × Store)) : Env → Store → Out (Bool × Store) := fun ρ τ => (f ρ τ).bind fun x => (ofO (tru (hd x.2 x.1))).bind fun k => .ok (k, x.2)
theorem At.weakP {α β : Type} {G : Gx} {B : Store} {W : WX} {P P' : Pst α β} {Ex : Addr → Prop} {φ : List Addr} {ρ : Env} {τ : Store} {o : Out (α × Store)} {σ : L2.St} {H : Hp} {Q : β → Hp → Prop}
    (k : ∀ {Ex H φ' τ' H' d v}, P' Ex H φ' τ' H' d v → P Ex H φ' τ' H' d v) (h : At G B W P Ex φ ρ τ o σ H Q) : At G B W P' Ex φ ρ τ o σ H Q := by
  obtain ⟨hR, h⟩ := h
  refine ⟨hR, ?_⟩
  cases o with
  | stuck => exact h
  | exc c p τ' => exact h
  | ok r =>
    obtain ⟨d, τ'⟩ := r
    exact fun φ' v H' st R' rp => h φ' v H' st R' (k rp)
theorem PL.back {G : Gx} : ∀ {Ex H H1 φ' τ' H' d v}, (∀ a, H a ≠ none → H1 a ≠ none) → PL G Ex H1 φ' τ' H' d v → PL G Ex H φ' τ' H' d v := fun _ h => h
theorem PB.back : ∀ {Ex H H1 φ' τ' H' d v}, (∀ a, H a ≠ none → H1 a ≠ none) → PB Ex H1 φ' τ' H' d v → PB Ex H φ' τ' H' d v := fun _ h => h
theorem POI.back : ∀ {Ex H H1 φ' τ' H' d v}, (∀ a, H a ≠ none → H1 a ≠ none) → POI Ex H1 φ' τ' H' d v → POI Ex H φ' τ' H' d v := fun _ h => h
section
variable {X : Cx} {G : Gx} {B : Store} {W : WX} {a b c : Expr} {es : List Expr} {fa fb fc : Env → Store → Out (D × Store)} {ga : Env → Store → Out (List D × Store)} {pos : Pos}
theorem pe_F (h : PE X a (rdF G B W fa)) : PE X a (rd G B W fa) :=
  h.imp fun σ H Q ⟨Ex, φ, ρ, τ, k⟩ => ⟨Ex, φ, ρ, τ, k.weakP fun p => p.to⟩
/-! ### names, constants -/
theorem pe_varD {i : Nat} {x : Str} (hN : X.N[i]? = some x) (hv : Vis X.env.scope x) (hd : (x == ("__debug__" : Str)) = false) (hcd : (x == ("__classdict__" : Str)) = false) :
    PE X (.Name x pos) (rd G B W fun ρ τ => match ρ[i]? with
      | some (some d) => .ok (d, τ)
      | _ => .stuck) := by
  refine (pe_var hN hv hd hcd).imp ?_
  rintro σ H Q ⟨Ex, φ, ρ, τ, h⟩
  cases e : ρ[i]? with
  | none => simp only [e] at h; exact h.2.elim
  | some o =>
    cases o with
    | none => simp only [e] at h; exact h.2.elim
    | some d =>
      simp only [e] at h
      obtain ⟨v, e1, r⟩ := h.1.er.val i d e
      exact ⟨v, e1, h.done Grow.refl (PD.not r)⟩
theorem at_con {σ : L2.St} {H : Hp} {Q : VK} {d : D} {v : V} (h : rd G B W (fun _ τ => .ok (d, τ)) σ H Q) (r : ∀ L φ H, Rep G L φ H d v) : Q v H := by
  obtain ⟨Ex, φ, ρ, τ, h⟩ := h
  exact h.done Grow.refl (PD.not (r _ _ _))
theorem pe_conD {d : D} {v : V} (h : PE X a (tC v)) (r : ∀ L φ H, Rep G L φ H d v) : PE X a (rd G B W fun _ τ => .ok (d, τ)) :=
  h.imp fun σ H Q k => at_con k r
/-! ### operators -/
theorem pe_opD {f : Value → Value → Sem Value} {op : Operator} {F : D → D → Option D} (ho : OpR X (binaryOp op) (rOp G F)) (ha : PE X a (rd G B W fa)) (hb : PE X b (rd G B W fb)) :
    PE X (.BinOp a op b pos) (rdF G B W fun ρ τ => (fa ρ τ).bind fun x => (fb ρ x.2).bind fun y => (ofO (F (hd y.2 x.1) (hd y.2 y.1))).bind fun d => .ok (d, y.2)) := by
  refine (pe_op ho ha hb).imp ?_
  rintro σ H Q ⟨Ex, φ, ρ, τ, h⟩
  refine ⟨Ex, φ, ρ, τ, (At.bind h PD.back).mono ?_⟩
  rintro v1 H1 ⟨d1, φ1, τ1, e1, st1, p1, h1⟩
  refine ⟨Ex, φ1, ρ, τ1, (At.bind h1 PD.back).mono ?_⟩
  rintro v2 H2 ⟨d2, φ2, τ2, e2, st2, p2, h2⟩
  have r1 := p1.1.step h1.1.sr st2
  cases eF : F (hd τ2 d1) (hd τ2 d2) with
  | none => simp only [eF] at h2; exact h2.2.elim
  | some d =>
    simp only [eF, ofO_some, Out.bind_ok] at h2
    exact ⟨Lv φ2 τ2 Ex, φ2, _, _, d, h2.1.lv, h2.1.sr.hd r1, h2.1.sr.hd p2.1, eF, fun v H' k => At.op h2 k⟩
/-- a comparison, in any place -/
theorem at_cmp {F : D → D → Option Bool} {σ : L2.St} {H : Hp} {Q : VK}
    (h : rd G B W (fun ρ τ => (fa ρ τ).bind fun x => (fb ρ x.2).bind fun y => (ofO (F (hd y.2 x.1) (hd y.2 y.1))).bind fun d => .ok (.bl d, y.2)) σ H Q) :
    tOp (rOpB G F) (rd G B W fa) (rd G B W fb) σ H Q := by
  obtain ⟨Ex, φ, ρ, τ, h⟩ := h
  refine ⟨Ex, φ, ρ, τ, (At.bind h PD.back).mono ?_⟩
  rintro v1 H1 ⟨d1, φ1, τ1, e1, st1, p1, h1⟩
  refine ⟨Ex, φ1, ρ, τ1, (At.bind h1 PD.back).mono ?_⟩
  rintro v2 H2 ⟨d2, φ2, τ2, e2, st2, p2, h2⟩
  have r1 := p1.1.step h1.1.sr st2
  cases eF : F (hd τ2 d1) (hd τ2 d2) with
  | none => simp only [eF] at h2; exact h2.2.elim
  | some d =>
    simp only [eF, ofO_some, Out.bind_ok] at h2
    exact ⟨Lv φ2 τ2 Ex, φ2, _, _, d, h2.1.sr.hd r1, h2.1.sr.hd p2.1, eF, At.op h2 OpPost.bl⟩
theorem pe_cmpD {op : CmpOp} {F : D → D → Option Bool} (ho : OpR X (compareOp op) (rOpB G F)) (ha : PE X a (rd G B W fa)) (hb : PE X b (rd G B W fb)) (hm : behindInMarks op b = false) :
    PE X (.Compare a [op] [b] pos) (rd G B W fun ρ τ => (fa ρ τ).bind fun x => (fb ρ x.2).bind fun y => (ofO (F (hd y.2 x.1) (hd y.2 y.1))).bind fun d => .ok (.bl d, y.2)) :=
  (pe_cmpR ho ha hb hm).imp fun σ H Q h => at_cmp h
/-- from a test's outcome back to the value's: where the value is True or False -/
theorem tst_bl {f : Env → Store → Out (Bool × Store)} {σ : L2.St} {H : Hp} {Q : Bool → Hp → Prop}
    (h : rdT G B W (tst fun ρ τ => (f ρ τ).bind fun k => .ok (.bl k.1, k.2)) σ H Q) : rd G B W (fun ρ τ => (f ρ τ).bind fun k => .ok (.bl k.1, k.2)) σ H fun x H' => ∃ k, x = .bl k ∧ Q k H' := by
  obtain ⟨Ex, φ, ρ, τ, hR, h⟩ := h
  refine ⟨Ex, φ, ρ, τ, hR, ?_⟩
  simp only [tst] at h
  cases e : f ρ τ with
  | stuck => simp only [e, Out.bind_stuck] at h
  | exc c p τ' => simp only [e, Out.bind_exc] at h ⊢; exact h
  | ok r =>
    obtain ⟨k, τ'⟩ := r
    simp only [e, Out.bind_ok, hd_bl, tru_bl, ofO_some] at h ⊢
    intro φ' v H' st R' p
    have q := p.1
    simp only [Rep] at q
    subst q
    exact ⟨k, rfl, h φ' k H' st R' rfl⟩
theorem pt_cmpD {op : CmpOp} {F : D → D → Option Bool} (ho : OpR X (compareOp op) (rOpB G F)) (ha : PE X a (rd G B W fa)) (hb : PE X b (rd G B W fb)) (hm : behindInMarks op b = false) :
    PT X (.Compare a [op] [b] pos) (rdT G B W (tst fun ρ τ => (fa ρ τ).bind fun x => (fb ρ x.2).bind fun y => (ofO (F (hd y.2 x.1) (hd y.2 y.1))).bind fun d => .ok (.bl d, y.2))) := by
  refine (pt_cmpR ho ha hb hm).imp fun σ H Q h => ?_
  have e : (fun (ρ : Env) (τ : Store) => (fa ρ τ).bind fun x => (fb ρ x.2).bind fun y => (ofO (F (hd y.2 x.1) (hd y.2 y.1))).bind fun d => Out.ok (D.bl d, y.2)) =
      fun ρ τ => ((fa ρ τ).bind fun x => (fb ρ x.2).bind fun y => (ofO (F (hd y.2 x.1) (hd y.2 y.1))).bind fun d => Out.ok (d, y.2)).bind fun k => .ok (.bl k.1, k.2) := by
    funext ρ τ
    cases fa ρ τ with
    | stuck => rfl
    | exc => rfl
    | ok x =>
      simp only [Out.bind_ok]
      cases fb ρ x.2 with
      | stuck => rfl
      | exc => rfl
      | ok y =>
        simp only [Out.bind_ok]
        cases F (hd y.2 x.1) (hd y.2 y.1) <;> rfl
  rw [e] at h
  have h2 := tst_bl h
  rw [← e] at h2
  exact at_cmp h2
/-- any value as a test -/
theorem at_tru (hG : G.K = X.K) {σ : L2.St} {H : Hp} {Q : Bool → Hp → Prop} (h : rdT G B W (tst fa) σ H Q) : rd G B W fa σ H fun x H' => ∃ k, TruV X.K x H' k ∧ Q k H' := by
  obtain ⟨Ex, φ, ρ, τ, h⟩ := h
  refine ⟨Ex, φ, ρ, τ, (At.bind h PB.back).mono ?_⟩
  rintro v1 H1 ⟨d1, φ1, τ1, e1, st1, p1, h1⟩
  cases eF : tru (hd τ1 d1) with
  | none => simp only [eF] at h1; exact h1.2.elim
  | some k =>
    simp only [eF, ofO_some, Out.bind_ok] at h1
    exact ⟨k, tru_rep hG (h1.1.sr.hd p1.1) eF, h1.done Grow.refl rfl⟩
theorem pt_truD (hG : G.K = X.K) (ha : PE X a (rd G B W fa)) (he : ∀ whole, isTrue a X.env whole = (do let v ← whole; standAt a.pos; holding [v] (truthy v))) : PT X a (rdT G B W (tst fa)) :=
  (pt_truth ha he).imp fun σ H Q h => at_tru hG h
theorem pe_negD (ha : PE X a (rd G B W fa)) : PE X (.UnaryOp .USub a pos) (rd G B W fun ρ τ => (fa ρ τ).bind fun x => (match x.1 with
    | .int i => .ok (.int (-i), x.2)
    | _ => .stuck)) := by
  refine (pe_un un_neg ha).imp ?_
  rintro σ H Q ⟨Ex, φ, ρ, τ, h⟩
  refine ⟨Ex, φ, ρ, τ, (At.bind h PD.back).mono ?_⟩
  rintro v1 H1 ⟨d1, φ1, τ1, e1, st1, p1, h1⟩
  cases d1 <;> simp only at h1
  case int i =>
    have q := p1.1
    simp only [Rep] at q
    exact ⟨i, q, At.op h1 OpPost.int⟩
  all_goals exact h1.2.elim
theorem pe_notD (hG : G.K = X.K) (ha : PE X a (rd G B W fa)) : PE X (.UnaryOp .Not a pos) (rd G B W fun ρ τ => (fa ρ τ).bind fun x => (ofO (tru (hd x.2 x.1))).bind fun k => .ok (.bl (!k), x.2)) := by
  refine (pe_notT ha).imp ?_
  rintro σ H Q ⟨Ex, φ, ρ, τ, h⟩
  refine ⟨Ex, φ, ρ, τ, (At.bind h PD.back).mono ?_⟩
  rintro v1 H1 ⟨d1, φ1, τ1, e1, st1, p1, h1⟩
  cases eF : tru (hd τ1 d1) with
  | none => simp only [eF] at h1; exact h1.2.elim
  | some k =>
    simp only [eF, ofO_some, Out.bind_ok] at h1
    exact ⟨k, tru_rep hG (h1.1.sr.hd p1.1) eF, At.op h1 OpPost.bl⟩
theorem pt_notD (ha : PT X a (rdT G B W (tst fa))) : PT X (.UnaryOp .Not a pos) (rdT G B W (tst fun ρ τ => (fa ρ τ).bind fun x => (ofO (tru (hd x.2 x.1))).bind fun k => .ok (.bl (!k), x.2))) := by
  refine (pt_not ha).imp ?_
  rintro σ H Q ⟨Ex, φ, ρ, τ, hR, h⟩
  refine ⟨Ex, φ, ρ, τ, hR, ?_⟩
  simp only [tst] at h ⊢
  cases e : fa ρ τ with
  | stuck => simp only [e, Out.bind_stuck] at h
  | exc c p τ' => simp only [e, Out.bind_exc] at h ⊢; exact h
  | ok r =>
    obtain ⟨d, τ'⟩ := r
    simp only [e, Out.bind_ok] at h ⊢
    cases eF : tru (hd τ' d) with
    | none => simp only [eF, ofO_none, Out.bind_stuck] at h
    | some k =>
      simp only [eF, ofO_some, Out.bind_ok, hd_bl, tru_bl] at h ⊢
      intro φ' v H' st R' p
      have p : v = k := p
      subst p
      exact h φ' (!v) H' st R' rfl
theorem pe_iteD (ht : PT X c (rdT G B W (tst fc))) (ha : PE X a (rd G B W fa)) (hb : PE X b (rd G B W fb)) :
    PE X (.IfExp c a b pos) (rd G B W fun ρ τ => (fc ρ τ).bind fun x => (ofO (tru (hd x.2 x.1))).bind fun k => if k = true then fa ρ x.2 else fb ρ x.2) := by
  refine (pe_ifExp ht ha hb).imp ?_
  rintro σ H Q ⟨Ex, φ, ρ, τ, h⟩
  have e : ((fc ρ τ).bind fun x => (ofO (tru (hd x.2 x.1))).bind fun k => if k = true then fa ρ x.2 else fb ρ x.2) = (tst fc ρ τ).bind fun k => if k.1 = true then fa ρ k.2 else fb ρ k.2 := by
    unfold tst
    cases fc ρ τ with
    | stuck => rfl
    | exc => rfl
    | ok x =>
      simp only [Out.bind_ok]
      cases tru (hd x.2 x.1) <;> rfl
  dsimp only at h
  rw [e] at h
  refine ⟨Ex, φ, ρ, τ, (At.bind (P2 := PB) h PD.back).mono ?_⟩
  rintro k H1 ⟨d1, φ1, τ1, e1, st1, p1, h1⟩
  have p1 : k = d1 := p1
  subst p1
  cases k with
  | true => exact ⟨Ex, φ1, ρ, τ1, h1⟩
  | false => exact ⟨Ex, φ1, ρ, τ1, h1⟩
/-! ### and, or -/
theorem bind_eta {α : Type} (o : Out (α × Store)) : (o.bind fun x => .ok x) = o := by cases o <;> rfl
theorem pe_andD (hG : G.K = X.K) (ha : PE X a (rd G B W fa)) (hb : PE X (.BoolOp .And (b :: es) pos) (rd G B W fb)) :
    PE X (.BoolOp .And (a :: b :: es) pos) (rd G B W fun ρ τ => (fa ρ τ).bind fun x => (ofO (tru (hd x.2 x.1))).bind fun k => if k = true then fb ρ x.2 else .ok x) := by
  refine (pe_andT ha hb).imp ?_
  rintro σ H Q ⟨Ex, φ, ρ, τ, h⟩
  refine ⟨Ex, φ, ρ, τ, (At.bind h PD.back).mono ?_⟩
  rintro v1 H1 ⟨d1, φ1, τ1, e1, st1, p1, h1⟩
  cases eF : tru (hd τ1 d1) with
  | none => simp only [eF] at h1; exact h1.2.elim
  | some k =>
    simp only [eF, ofO_some, Out.bind_ok] at h1
    refine ⟨k, tru_rep hG (h1.1.sr.hd p1.1) eF, ?_⟩
    cases k with
    | true => exact ⟨Ex, φ1, ρ, τ1, h1⟩
    | false => exact At.done h1 Grow.refl (PD.not p1.1)
theorem pe_orD (hG : G.K = X.K) (ha : PE X a (rd G B W fa)) (hb : PE X (.BoolOp .Or (b :: es) pos) (rd G B W fb)) :
    PE X (.BoolOp .Or (a :: b :: es) pos) (rd G B W fun ρ τ => (fa ρ τ).bind fun x => (ofO (tru (hd x.2 x.1))).bind fun k => if k = true then .ok x else fb ρ x.2) := by
  refine (pe_orT ha hb).imp ?_
  rintro σ H Q ⟨Ex, φ, ρ, τ, h⟩
  refine ⟨Ex, φ, ρ, τ, (At.bind h PD.back).mono ?_⟩
  rintro v1 H1 ⟨d1, φ1, τ1, e1, st1, p1, h1⟩
  cases eF : tru (hd τ1 d1) with
  | none => simp only [eF] at h1; exact h1.2.elim
  | some k =>
    simp only [eF, ofO_some, Out.bind_ok] at h1
    refine ⟨k, tru_rep hG (h1.1.sr.hd p1.1) eF, ?_⟩
    cases k with
    | false => exact ⟨Ex, φ1, ρ, τ1, h1⟩
    | true => exact At.done h1 Grow.refl (PD.not p1.1)
theorem _root_.L2.PW.imp {e : Expr} {t t' : TT} (h : PW X e t) (k : ∀ σ H Q, t' σ H Q → t σ H Q) : PW X e t' := ⟨fun wh pins s σ H Q I hq => h.run wh pins s σ H Q I (k σ H Q hq)⟩
theorem at_and {σ : L2.St} {H : Hp} {Q : Bool → Hp → Prop} (h : rdT G B W (tst fun ρ τ => (fa ρ τ).bind fun x => (ofO (tru (hd x.2 x.1))).bind fun k => if k = true then fb ρ x.2 else .ok x) σ H Q) :
    tAnd (rdT G B W (tst fa)) (rdT G B W (tst fb)) σ H Q := by
  obtain ⟨Ex, φ, ρ, τ, h⟩ := h
  have e : (tst (fun ρ τ => (fa ρ τ).bind fun x => (ofO (tru (hd x.2 x.1))).bind fun k => if k = true then fb ρ x.2 else .ok x) ρ τ) = (tst fa ρ τ).bind fun k => if k.1 = true then tst fb ρ k.2 else .ok (false, k.2) := by
    simp only [tst]
    cases fa ρ τ with
    | stuck => simp only [Out.bind_stuck]
    | exc => simp only [Out.bind_exc]
    | ok x =>
      simp only [Out.bind_ok]
      cases q : tru (hd x.2 x.1) with
      | none => simp only [ofO_none, Out.bind_stuck]
      | some k => cases k <;> simp [q]
  rw [e] at h
  refine ⟨Ex, φ, ρ, τ, (At.bind (P2 := PB) h PB.back).mono ?_⟩
  rintro k H1 ⟨d1, φ1, τ1, e1, st1, p1, h1⟩
  have p1 : k = d1 := p1
  subst p1
  cases k with
  | true => exact ⟨Ex, φ1, ρ, τ1, h1⟩
  | false => exact h1.done Grow.refl rfl
theorem at_or {σ : L2.St} {H : Hp} {Q : Bool → Hp → Prop} (h : rdT G B W (tst fun ρ τ => (fa ρ τ).bind fun x => (ofO (tru (hd x.2 x.1))).bind fun k => if k = true then .ok x else fb ρ x.2) σ H Q) :
    tOr (rdT G B W (tst fa)) (rdT G B W (tst fb)) σ H Q := by
  obtain ⟨Ex, φ, ρ, τ, h⟩ := h
  have e : (tst (fun ρ τ => (fa ρ τ).bind fun x => (ofO (tru (hd x.2 x.1))).bind fun k => if k = true then .ok x else fb ρ x.2) ρ τ) = (tst fa ρ τ).bind fun k => if k.1 = true then .ok (true, k.2) else tst fb ρ k.2 := by
    simp only [tst]
    cases fa ρ τ with
    | stuck => simp only [Out.bind_stuck]
    | exc => simp only [Out.bind_exc]
    | ok x =>
      simp only [Out.bind_ok]
      cases q : tru (hd x.2 x.1) with
      | none => simp only [ofO_none, Out.bind_stuck]
      | some k => cases k <;> simp [q]
  rw [e] at h
  refine ⟨Ex, φ, ρ, τ, (At.bind (P2 := PB) h PB.back).mono ?_⟩
  rintro k H1 ⟨d1, φ1, τ1, e1, st1, p1, h1⟩
  have p1 : k = d1 := p1
  subst p1
  cases k with
  | false => exact ⟨Ex, φ1, ρ, τ1, h1⟩
  | true => exact h1.done Grow.refl rfl
theorem pw_andD (ha : PT X a (rdT G B W (tst fa))) (hb : PW X (.BoolOp .And (b :: es) pos) (rdT G B W (tst fb))) :
    PW X (.BoolOp .And (a :: b :: es) pos) (rdT G B W (tst fun ρ τ => (fa ρ τ).bind fun x => (ofO (tru (hd x.2 x.1))).bind fun k => if k = true then fb ρ x.2 else .ok x)) :=
  PW.imp (pw_and ha hb) fun σ H Q h => at_and h
theorem pw_orD (ha : PT X a (rdT G B W (tst fa))) (hb : PW X (.BoolOp .Or (b :: es) pos) (rdT G B W (tst fb))) :
    PW X (.BoolOp .Or (a :: b :: es) pos) (rdT G B W (tst fun ρ τ => (fa ρ τ).bind fun x => (ofO (tru (hd x.2 x.1))).bind fun k => if k = true then .ok x else fb ρ x.2)) :=
  PW.imp (pw_or ha hb) fun σ H Q h => at_or h
/-! ### a chain of two, a conditional as a test -/
theorem at_cmp2 {F F' : D → D → Option Bool} {σ : L2.St} {H : Hp} {Q : VK}
    (h : rd G B W (fun ρ τ => (fa ρ τ).bind fun x => (fb ρ x.2).bind fun y => (ofO (F (hd y.2 x.1) (hd y.2 y.1))).bind fun d =>
      if d = true then (fc ρ y.2).bind fun z => (ofO (F' (hd z.2 y.1) (hd z.2 z.1))).bind fun d' => .ok (.bl d', z.2) else .ok (.bl false, y.2)) σ H Q) :
    tChain (rOpB G F) (rOpB G F') (rd G B W fa) (rd G B W fb) (rd G B W fc) σ H Q := by
  obtain ⟨Ex, φ, ρ, τ, h⟩ := h
  refine ⟨Ex, φ, ρ, τ, (At.bind h PD.back).mono ?_⟩
  rintro v1 H1 ⟨d1, φ1, τ1, e1, st1, p1, h1⟩
  refine ⟨Ex, φ1, ρ, τ1, (At.bind h1 PD.back).mono ?_⟩
  rintro v2 H2 ⟨d2, φ2, τ2, e2, st2, p2, h2⟩
  have r1 := p1.1.step h1.1.sr st2
  cases eF : F (hd τ2 d1) (hd τ2 d2) with
  | none => simp only [eF] at h2; exact h2.2.elim
  | some d =>
    simp only [eF, ofO_some, Out.bind_ok] at h2
    refine ⟨Lv φ2 τ2 Ex, φ2, _, _, d, h2.1.sr.hd r1, h2.1.sr.hd p2.1, eF, d, rfl, ?_⟩
    cases d with
    | false => exact At.op h2 OpPost.bl
    | true =>
      simp only [if_true] at h2 ⊢
      refine ⟨Ex, φ2, ρ, τ2, (At.bind h2 PD.back).mono ?_⟩
      rintro v3 H3 ⟨d3, φ3, τ3, e3, st3, p3, h3⟩
      have r2 := p2.1.step h2.1.sr st3
      cases eF' : F' (hd τ3 d2) (hd τ3 d3) with
      | none => simp only [eF'] at h3; exact h3.2.elim
      | some d' =>
        simp only [eF', ofO_some, Out.bind_ok] at h3
        exact ⟨Lv φ3 τ3 Ex, φ3, _, _, d', h3.1.sr.hd r2, h3.1.sr.hd p3.1, eF', At.op h3 OpPost.bl⟩
theorem pe_cmp2D {op op' : CmpOp} {F F' : D → D → Option Bool} (ho : OpR X (compareOp op) (rOpB G F)) (ho' : OpR X (compareOp op') (rOpB G F')) (ha : PE X a (rd G B W fa)) (hb : PE X b (rd G B W fb)) (hc : PE X c (rd G B W fc)) (hm : lastMarks [op, op'] [b, c] = false) :
    PE X (.Compare a [op, op'] [b, c] pos) (rd G B W fun ρ τ => (fa ρ τ).bind fun x => (fb ρ x.2).bind fun y => (ofO (F (hd y.2 x.1) (hd y.2 y.1))).bind fun d =>
      if d = true then (fc ρ y.2).bind fun z => (ofO (F' (hd z.2 y.1) (hd z.2 z.1))).bind fun d' => .ok (.bl d', z.2) else .ok (.bl false, y.2)) :=
  (pe_chain ho ho' ha hb hc hm).imp fun σ H Q h => at_cmp2 h
theorem pt_cmp2D {op op' : CmpOp} {F F' : D → D → Option Bool} (ho : OpR X (compareOp op) (rOpB G F)) (ho' : OpR X (compareOp op') (rOpB G F')) (ha : PE X a (rd G B W fa)) (hb : PE X b (rd G B W fb)) (hc : PE X c (rd G B W fc)) (hm : lastMarks [op, op'] [b, c] = false) :
    PT X (.Compare a [op, op'] [b, c] pos) (rdT G B W (tst fun ρ τ => (fa ρ τ).bind fun x => (fb ρ x.2).bind fun y => (ofO (F (hd y.2 x.1) (hd y.2 y.1))).bind fun d =>
      if d = true then (fc ρ y.2).bind fun z => (ofO (F' (hd z.2 y.1) (hd z.2 z.1))).bind fun d' => .ok (.bl d', z.2) else .ok (.bl false, y.2))) := by
  refine (pt_chain ho ho' ha hb hc hm).imp fun σ H Q h => ?_
  have e : (fun (ρ : Env) (τ : Store) => (fa ρ τ).bind fun x => (fb ρ x.2).bind fun y => (ofO (F (hd y.2 x.1) (hd y.2 y.1))).bind fun d =>
      if d = true then (fc ρ y.2).bind fun z => (ofO (F' (hd z.2 y.1) (hd z.2 z.1))).bind fun d' => Out.ok (D.bl d', z.2) else .ok (.bl false, y.2)) =
      fun ρ τ => ((fa ρ τ).bind fun x => (fb ρ x.2).bind fun y => (ofO (F (hd y.2 x.1) (hd y.2 y.1))).bind fun d =>
      if d = true then (fc ρ y.2).bind fun z => (ofO (F' (hd z.2 y.1) (hd z.2 z.1))).bind fun d' => Out.ok (d', z.2) else .ok (false, y.2)).bind fun k => .ok (.bl k.1, k.2) := by
    funext ρ τ
    cases fa ρ τ with
    | stuck => rfl
    | exc => rfl
    | ok x =>
      simp only [Out.bind_ok]
      cases fb ρ x.2 with
      | stuck => rfl
      | exc => rfl
      | ok y =>
        simp only [Out.bind_ok]
        cases F (hd y.2 x.1) (hd y.2 y.1) with
        | none => rfl
        | some d =>
          cases d with
          | false => rfl
          | true =>
            simp only [ofO_some, Out.bind_ok, if_true]
            cases fc ρ y.2 with
            | stuck => rfl
            | exc => rfl
            | ok z =>
              simp only [Out.bind_ok]
              cases F' (hd z.2 y.1) (hd z.2 z.1) <;> rfl
  rw [e] at h
  have h2 := tst_bl h
  rw [← e] at h2
  exact at_cmp2 h2
theorem isTrue_ifExp {t a b : Expr} {whole : Sem Value} {Qf : Bool → Shared → Prop} {s : Shared} (h : wpAny (model X.prog X.w) X.A (isTrue t X.env (eval t X.env)) (fun k s1 => if k = true then wpAny (model X.prog X.w) X.A (isTrue a X.env (eval a X.env)) Qf X.xe s1 else wpAny (model X.prog X.w) X.A (isTrue b X.env (eval b X.env)) Qf X.xe s1) X.xe s) :
    wpAny (model X.prog X.w) X.A (isTrue (.IfExp t a b pos) X.env whole) Qf X.xe s := by
  show wpAny _ _ (isTrue t X.env (eval t X.env) >>= fun k => if k = true then isTrue a X.env (eval a X.env) else isTrue b X.env (eval b X.env)) _ _ _
  refine wpAny_bind (thn h fun k s1 hk => ?_)
  cases k with
  | true => exact hk
  | false => exact hk
theorem pt_iteD (ht : PT X c (rdT G B W (tst fc))) (ha : PT X a (rdT G B W (tst fa))) (hb : PT X b (rdT G B W (tst fb))) :
    PT X (.IfExp c a b pos) (rdT G B W (tst fun ρ τ => (fc ρ τ).bind fun x => (ofO (tru (hd x.2 x.1))).bind fun k => if k = true then fa ρ x.2 else fb ρ x.2)) := by
  refine ⟨fun pins s σ H Q I h => ?_⟩
  obtain ⟨Ex, φ, ρ, τ, h⟩ := h
  have e : (tst (fun ρ τ => (fc ρ τ).bind fun x => (ofO (tru (hd x.2 x.1))).bind fun k => if k = true then fa ρ x.2 else fb ρ x.2) ρ τ) = (tst fc ρ τ).bind fun k => if k.1 = true then tst fa ρ k.2 else tst fb ρ k.2 := by
    simp only [tst]
    cases fc ρ τ with
    | stuck => simp only [Out.bind_stuck]
    | exc => simp only [Out.bind_exc]
    | ok x =>
      simp only [Out.bind_ok]
      cases q : tru (hd x.2 x.1) with
      | none => simp only [ofO_none, Out.bind_stuck]
      | some k => cases k <;> simp [q]
  rw [e] at h
  refine isTrue_ifExp (thn (ht.run pins s σ H _ I ⟨Ex, φ, ρ, τ, At.bind (P2 := PB) h PB.back⟩) fun k s1 ⟨H1, I1, q1⟩ => ?_)
  obtain ⟨d, φ1, τ1, e1, st1, p1, h1⟩ := q1
  have p1 : k = d := p1
  subst p1
  cases k with
  | true => exact ha.run pins s1 σ H1 Q I1 ⟨Ex, φ1, ρ, τ1, h1⟩
  | false => exact hb.run pins s1 σ H1 Q I1 ⟨Ex, φ1, ρ, τ1, h1⟩
/-! ### items, slices, displays -/
theorem pe_idxD (hG : G.K = X.K) (ha : PE X a (rd G B W fa)) (hb : PE X b (rd G B W fb)) (hs : PlainIx b) :
    PE X (.Subscript a b pos) (rd G B W fun ρ τ => (fa ρ τ).bind fun x => (fb ρ x.2).bind fun y => (ofO (idxF (hd y.2 x.1) y.1)).bind fun d => .ok (d, y.2)) := by
  refine (pe_ix (op_idx hG) ha hb hs).imp ?_
  rintro σ H Q ⟨Ex, φ, ρ, τ, h⟩
  refine ⟨Ex, φ, ρ, τ, (At.bind h PD.back).mono ?_⟩
  rintro v1 H1 ⟨d1, φ1, τ1, e1, st1, p1, h1⟩
  refine ⟨Ex, φ1, ρ, τ1, (At.bind h1 PD.back).mono ?_⟩
  rintro v2 H2 ⟨d2, φ2, τ2, e2, st2, p2, h2⟩
  have r1 := p1.1.step h1.1.sr st2
  cases eF : idxF (hd τ2 d1) d2 with
  | none => simp only [eF] at h2; exact h2.2.elim
  | some d =>
    simp only [eF, ofO_some, Out.bind_ok] at h2
    exact ⟨Lv φ2 τ2 Ex, φ2, _, _, d, h2.1.sr.hd r1, p2.1, eF, fun v k => h2.done Grow.refl (PD.not k)⟩
theorem po_noneD : PO X none (rdO G B W fun _ τ => .ok (none, τ)) :=
  PO.imp po_none fun σ H Q ⟨Ex, φ, ρ, τ, h⟩ => h.done Grow.refl rfl
theorem po_someD (ha : PE X a (rd G B W fa)) : PO X (some a) (rdO G B W fun ρ τ => (fa ρ τ).bind fun x => (match x.1 with
    | .int i => .ok (some i, x.2)
    | _ => .stuck)) := by
  refine PO.imp (po_some ha) ?_
  rintro σ H Q ⟨Ex, φ, ρ, τ, h⟩
  refine ⟨Ex, φ, ρ, τ, (At.bind h POI.back).mono ?_⟩
  rintro v1 H1 ⟨d1, φ1, τ1, e1, st1, p1, h1⟩
  cases d1 <;> simp only at h1
  case int i =>
    have q := p1.1
    simp only [Rep] at q
    exact ⟨i, q, h1.done Grow.refl rfl⟩
  all_goals exact h1.2.elim
theorem pe_sliceD {lo hi : Option Expr} {p2 : Pos} {fl fh : Env → Store → Out (Option Int × Store)} (hG : G.K = X.K) (ha : PE X a (rd G B W fa)) (hl : PO X lo (rdO G B W fl)) (hh : PO X hi (rdO G B W fh)) :
    PE X (.Subscript a (.Slice lo hi none p2) pos) (rdF G B W fun ρ τ => (fa ρ τ).bind fun x => (fl ρ x.2).bind fun l => (fh ρ l.2).bind fun h => (ofO (sliceF l.1 h.1 (hd h.2 x.1))).bind fun d => .ok (d, h.2)) := by
  refine (pe_slice (op_slice (G := G) hG) ha hl hh).imp ?_
  rintro σ H Q ⟨Ex, φ, ρ, τ, h⟩
  refine ⟨Ex, φ, ρ, τ, (At.bind h PD.back).mono ?_⟩
  rintro v1 H1 ⟨d1, φ1, τ1, e1, st1, p1, h1⟩
  refine ⟨Ex, φ1, ρ, τ1, (At.bind h1 PD.back).mono ?_⟩
  rintro v2 H2 ⟨d2, φ2, τ2, e2, st2, p2, h2⟩
  have r1 := p1.1.step h1.1.sr st2
  refine ⟨Ex, φ2, ρ, τ2, (At.bind h2 PD.back).mono ?_⟩
  rintro v3 H3 ⟨d3, φ3, τ3, e3, st3, p3, h3⟩
  have r2 := r1.step h2.1.sr st3
  have p2 : v2 = d2 := p2
  have p3 : v3 = d3 := p3
  subst p2 p3
  cases eF : sliceF v2 v3 (hd τ3 d1) with
  | none => simp only [eF] at h3; exact h3.2.elim
  | some d =>
    simp only [eF, ofO_some, Out.bind_ok] at h3
    exact ⟨Lv φ3 τ3 Ex, φ3, _, d, h3.1.lv, h3.1.sr.hd r2, eF, fun v H' k => At.op h3 k⟩
theorem pa_nilD : PA X [] (rdA G B W fun _ τ => .ok ([], τ)) :=
  PA.imp pa_nil fun σ H Q ⟨Ex, φ, ρ, τ, h⟩ => h.done Grow.refl (by simp only [PL, RepL])
theorem pa_consD (ha : PE X a (rd G B W fa)) (hr : PA X es (rdA G B W ga)) (hs : starEach (a :: es) X.env = (false, eval a X.env) :: starEach es X.env) :
    PA X (a :: es) (rdA G B W fun ρ τ => (fa ρ τ).bind fun x => (ga ρ x.2).bind fun q => .ok (x.1 :: q.1, q.2)) := by
  refine PA.imp (pa_cons ha hr hs) ?_
  rintro σ H Q ⟨Ex, φ, ρ, τ, h⟩
  refine ⟨Ex, φ, ρ, τ, (At.bind h PL.back).mono ?_⟩
  rintro v1 H1 ⟨d1, φ1, τ1, e1, st1, p1, h1⟩
  refine ⟨Ex, φ1, ρ, τ1, (At.bind h1 PL.back).mono ?_⟩
  rintro v2 H2 ⟨d2, φ2, τ2, e2, st2, p2, h2⟩
  have r1 := p1.1.step h1.1.sr st2
  refine h2.done Grow.refl ?_
  simp only [PL, RepL]
  exact ⟨v1, v2, rfl, r1, p2⟩
theorem len_le {L : Addr → Prop} {φ : List Addr} {H : Hp} {xs : List D} {vs : List V} (h : RepL G L φ H xs vs) (k : xs.length ≤ 1000000) : vs.length ≤ sizeLine := by
  have := h.length
  have := line_big
  omega
theorem pe_tupD {x1} (ha : PA X es (rdA G B W ga)) : PE X (.Tuple es x1 pos) (rd G B W fun ρ τ => (ga ρ τ).bind fun r => if r.1.length ≤ 1000000 then .ok (.tup r.1, r.2) else .stuck) := by
  refine (pe_tup ha).imp ?_
  rintro σ H Q ⟨Ex, φ, ρ, τ, h⟩
  refine ⟨Ex, φ, ρ, τ, (At.bind h PD.back).mono ?_⟩
  rintro v1 H1 ⟨d1, φ1, τ1, e1, st1, p1, h1⟩
  by_cases hz : d1.length ≤ 1000000
  · simp only [if_pos hz] at h1
    exact ⟨len_le p1 hz, fun p np => At.op h1 (OpPost.newTup p1 np)⟩
  · simp only [if_neg hz] at h1; exact h1.2.elim
theorem pe_lstD (ha : PA X es (rdA G B W ga)) : PE X (.List es pos) (rdF G B W fun ρ τ => (ga ρ τ).bind fun r => if r.1.length ≤ 1000000 then .ok (.lst r.1, r.2) else .stuck) := by
  refine (pe_lst ha).imp ?_
  rintro σ H Q ⟨Ex, φ, ρ, τ, h⟩
  refine ⟨Ex, φ, ρ, τ, (At.bind h PD.back).mono ?_⟩
  rintro v1 H1 ⟨d1, φ1, τ1, e1, st1, p1, h1⟩
  by_cases hz : d1.length ≤ 1000000
  · simp only [if_pos hz] at h1
    exact ⟨len_le p1 hz, fun p np => At.op h1 (OpPost.newLst h1.1.lv p1 np)⟩
  · simp only [if_neg hz] at h1; exact h1.2.elim
end
end M
set_option Elab.async false
set_option linter.all false
set_option maxRecDepth 100000
set_option maxHeartbeats 4000000
namespace M
open PySem PySem.Spec PyProof.Rows L2
section
variable {X : Cx} {G : Gx} {B : Store} {W : WX} {a b c : Expr} {es : List Expr} {fa fb fc : Env → Store → Out (D × Store)} {ga : Env → Store → Out (List D × Store)} {pos p : Pos}
/-! ### built-ins, isinstance -/
def bltName : Blt → Str
  | .len => "len" | .abs => "abs" | .int => "int" | .tuple => "tuple" | .list => "list" | .sum => "sum" | .all => "all" | .any => "any" | .sorted => "sorted" | .min => "min" | .max => "max"
theorem at_blt {F : D → Option D} {σ : L2.St} {H : Hp} {Q : VK} (h : rdF G B W (fun ρ τ => (fa ρ τ).bind fun x => (ofO (F (hd x.2 x.1))).bind fun d => .ok (d, x.2)) σ H Q) :
    tCB (rB G F) (tCons (rd G B W fa) tNil) σ H Q := by
  obtain ⟨Ex, φ, ρ, τ, h⟩ := h
  refine ⟨Ex, φ, ρ, τ, (At.bind h PD.back).mono ?_⟩
  rintro v1 H1 ⟨d1, φ1, τ1, e1, st1, p1, h1⟩
  cases eF : F (hd τ1 d1) with
  | none => simp only [eF] at h1; exact h1.2.elim
  | some d =>
    simp only [eF, ofO_some, Out.bind_ok] at h1
    exact ⟨Lv φ1 τ1 Ex, φ1, _, d, v1, rfl, h1.1.lv, h1.1.sr.hd p1.1, eF, fun v H' k => At.op h1 k⟩
theorem pe_bltD (hG : G.K = X.K) (hc : X.calm = true) (hu : X.A.units + 65 < cLine) (t : Blt) (hg : Gl X (bltName t)) (hm : X.mg (bltName t) = none) (ha : PE X a (rd G B W fa)) (hs : starEach [a] X.env = (false, eval a X.env) :: starEach [] X.env) :
    PE X (.Call (.Name (bltName t) p) [a] [] pos) (rdF G B W fun ρ τ => (fa ρ τ).bind fun x => (ofO (bltF t (hd x.2 x.1))).bind fun d => .ok (d, x.2)) := by
  have hp := pa_cons ha pa_nil hs
  have ho := op_blt (G := G) hG hc hu t
  cases t <;> first
    | exact (pe_callB ho hg hm (by decide +kernel) hp (by decide) (by decide) hs).imp fun σ H Q h => at_blt h
    | exact (pe_callTy ho hg hm (by decide +kernel) hp (by decide) (by decide) hs).imp fun σ H Q h => at_blt h
theorem at_isi {ts : List Ty} {σ : L2.St} {H : Hp} {Q : VK} {t : TE} {r : List V → Hp → VK → Prop}
    (h : rd G B W (fun ρ τ => (fa ρ τ).bind fun x => (ofO (isTys (hd x.2 x.1) ts)).bind fun k => .ok (.bl k, x.2)) σ H Q)
    (k : ∀ (L : Addr → Prop) (φ : List Addr) (d : D) (x : V) (b : Bool) (H1 : Hp) (Q1 : VK), Val G L φ H1 d x → isTys d ts = some b → (∀ H', Grow H1 H' → Q1 (.bl b) H') → t σ H1 fun y H2 => r [x, y] H2 Q1) :
    tCB r (tCons (rd G B W fa) (tCons t tNil)) σ H Q := by
  obtain ⟨Ex, φ, ρ, τ, h⟩ := h
  refine ⟨Ex, φ, ρ, τ, (At.bind h PD.back).mono ?_⟩
  rintro v1 H1 ⟨d1, φ1, τ1, e1, st1, p1, h1⟩
  cases eF : isTys (hd τ1 d1) ts with
  | none => simp only [eF] at h1; exact h1.2.elim
  | some d =>
    simp only [eF, ofO_some, Out.bind_ok] at h1
    refine k _ _ _ v1 d H1 Q (h1.1.sr.hd p1.1) eF fun H' g => h1.done g (PD.not ?_)
    simp only [Rep]
theorem pe_tyD (t : Ty) {p' : Pos} (hg2 : Gl X (tyS t)) (hm2 : X.mg (tyS t) = none) : PE X (.Name (tyS t) p') (tC (.ty (tyS t))) := by
  cases t <;> exact pe_bltn hg2 hm2 (u := .type _) (by decide +kernel) rfl (by decide) (by decide)
theorem pe_isi1 (hG : G.K = X.K) (t : Ty) (hg : Gl X "isinstance") (hm : X.mg "isinstance" = none) (ha : PE X a (rd G B W fa)) {p' : Pos} (hg2 : Gl X (tyS t)) (hm2 : X.mg (tyS t) = none) (hs : starEach [a, .Name (tyS t) p'] X.env = (false, eval a X.env) :: starEach [.Name (tyS t) p'] X.env) :
    PE X (.Call (.Name "isinstance" p) [a, .Name (tyS t) p'] [] pos) (rd G B W fun ρ τ => (fa ρ τ).bind fun x => (ofO (isTys (hd x.2 x.1) [t])).bind fun k => .ok (.bl k, x.2)) := by
  have hb : PE X (.Name (tyS t) p') (tC (.ty (tyS t))) := pe_tyD t hg2 hm2
  have hp := pa_cons ha (pa_cons hb pa_nil (by rfl)) hs
  refine (pe_callB (call_is1 (G := G) hG t) hg hm (by decide +kernel) hp (by decide) (by decide) hs (by rfl)).imp fun σ H Q h => ?_
  refine at_isi h fun L φ d x b H1 Q1 hv e q => ?_
  exact ⟨L, φ, d, x, b, rfl, hv, e, q _ Grow.refl⟩
def tyNames (ps : List Pos) (ts : List Ty) : List Expr := (ts.zip ps).map fun q => .Name (tyS q.1) q.2
theorem star_names : ∀ (qs : List (Ty × Pos)) (env : PySem.Env), (starEach (qs.map fun q => Expr.Name (tyS q.1) q.2) env) = qs.map fun q => (false, eval (.Name (tyS q.1) q.2) env)
  | [], _ => rfl
  | q :: qs, env => by
    have ih := star_names qs env
    show (false, eval (.Name (tyS q.1) q.2) env) :: starEach (qs.map fun q => Expr.Name (tyS q.1) q.2) env = _
    rw [ih]; rfl
def tTys (ts : List Ty) : TA := fun _ H Q => Q (ts.map fun t => V.ty (tyS t)) H
theorem pa_tys : ∀ (qs : List (Ty × Pos)), (∀ q ∈ qs, Gl X (tyS q.1) ∧ X.mg (tyS q.1) = none) → PA X (qs.map fun q => Expr.Name (tyS q.1) q.2) (tTys (qs.map (·.1)))
  | [], _ => PA.imp pa_nil fun σ H Q h => h
  | q :: qs, k => by
    obtain ⟨hg2, hm2⟩ := k q List.mem_cons_self
    have hb : PE X (.Name (tyS q.1) q.2) (tC (.ty (tyS q.1))) := by
      obtain ⟨t, p⟩ := q
      exact pe_tyD t hg2 hm2
    exact PA.imp (pa_cons hb (pa_tys qs fun z hz => k z (List.mem_cons_of_mem _ hz)) (by rfl)) fun σ H Q h => h
theorem pe_isiN (hG : G.K = X.K) (qs : List (Ty × Pos)) (hn : qs ≠ []) (hz : qs.length ≤ 1000) (hg : Gl X "isinstance") (hm : X.mg "isinstance" = none) (ha : PE X a (rd G B W fa)) {k : Nat} {p' : Pos} (hk : ∀ q ∈ qs, Gl X (tyS q.1) ∧ X.mg (tyS q.1) = none)
    (hs : starEach [a, .Tuple (qs.map fun q => Expr.Name (tyS q.1) q.2) k p'] X.env = (false, eval a X.env) :: starEach [.Tuple (qs.map fun q => Expr.Name (tyS q.1) q.2) k p'] X.env) :
    PE X (.Call (.Name "isinstance" p) [a, .Tuple (qs.map fun q => Expr.Name (tyS q.1) q.2) k p'] [] pos) (rd G B W fun ρ τ => (fa ρ τ).bind fun x => (ofO (isTys (hd x.2 x.1) (qs.map (·.1)))).bind fun k => .ok (.bl k, x.2)) := by
  have hb := pe_tup (x1 := k) (pos := p') (pa_tys (X := X) qs hk)
  have hp := pa_cons ha (pa_cons hb pa_nil (by rfl)) hs
  refine (pe_callB (call_isN (G := G) hG (qs.map (·.1))) hg hm (by decide +kernel) hp (by decide) (by decide) hs (by rfl)).imp fun σ H Q h => ?_
  refine at_isi h fun L φ d x b H1 Q1 hv e q => ?_
  have hl := line_big
  refine ⟨by rw [List.length_map, List.length_map]; omega, fun tp np => ⟨L, φ, d, x, tp, b, rfl, ?_, ?_, by simpa using hn, e, q _ (Grow.upd np)⟩⟩
  · rw [upd_same]
  · cases d with
    | lst xs =>
      simp only [Val] at hv ⊢
      obtain ⟨l, vs, e1, r, rl⟩ := hv
      exact ⟨l, vs, e1, Rd.step r fun o h => Grow.upd np _ _ h, rl.grow (Grow.upd np)⟩
    | _ => exact Rep.grow (Grow.upd np) hv
/-! ### a new cell -/
theorem SR.alloc {Ex : Addr → Prop} {φ : List Addr} {τ : Store} {H : Hp} {l : Addr} {xs : List D} {vs : List V} (s : SR G (add1 Ex l) φ τ H) (e : H l = some (.lst vs)) (r : RepL G (Lv φ τ (add1 Ex l)) φ H xs vs) (nex : ¬ Ex l) :
    SR G Ex (φ ++ [l]) (τ ++ [some xs]) H ∧ (∀ x, Lv (φ ++ [l]) (τ ++ [some xs]) Ex x ↔ Lv φ τ (add1 Ex l) x) := by
  have nl := (s.ex l (.inr rfl)).2
  have get : ∀ (i : Nat) (x : Addr), (φ ++ [l])[i]? = some x → φ[i]? = some x ∨ (i = φ.length ∧ x = l) := fun i x h => by
    by_cases hi : i < φ.length
    · rw [List.getElem?_append_left hi] at h; exact .inl h
    · rw [List.getElem?_append_right (by omega)] at h
      have : i - φ.length = 0 := by
        cases q : i - φ.length with
        | zero => rfl
        | succ n => rw [q] at h; simp at h
      rw [this] at h; simp at h
      exact .inr ⟨by omega, h.symm⟩
  have lv : ∀ x, Lv (φ ++ [l]) (τ ++ [some xs]) Ex x ↔ Lv φ τ (add1 Ex l) x := fun x => by
    unfold Lv
    constructor
    · rintro (⟨n, ys, h1, h2⟩ | h)
      · rcases get n x h2 with h | ⟨h, rfl⟩
        · have hn : n < τ.length := by rw [← s.len]; exact (List.getElem?_eq_some_iff.mp h).1
          rw [List.getElem?_append_left hn] at h1
          exact .inl ⟨n, ys, h1, h⟩
        · exact .inr (.inr rfl)
      · exact .inr (.inl h)
    · rintro (⟨n, ys, h1, h2⟩ | h | h)
      · have hn : n < φ.length := (List.getElem?_eq_some_iff.mp h2).1
        exact .inl ⟨n, ys, by rw [List.getElem?_append_left (by rw [← s.len]; exact hn)]; exact h1, by rw [List.getElem?_append_left hn]; exact h2⟩
      · exact .inr h
      · subst h
        exact .inl ⟨φ.length, xs, by rw [s.len]; simp, by simp⟩
  have up : ∀ {ds : List D} {ws : List V}, RepL G (Lv φ τ (add1 Ex l)) φ H ds ws → RepL G (Lv (φ ++ [l]) (τ ++ [some xs]) Ex) (φ ++ [l]) H ds ws := fun {ds ws} h =>
    RepL.gen (fun _ _ r => r) (fun b _ n r => ⟨fun z => n ((lv b).mp z), r⟩) (fun i x h => by
      rw [List.getElem?_append_left (List.getElem?_eq_some_iff.mp h).1]; exact h) ds ws h
  refine ⟨⟨by simp [s.len], fun i j x h1 h2 => ?_, fun n ys x h1 h2 => ?_, fun i x h => ?_, fun x h => ⟨(s.ex x (.inl h)).1, fun i z => ?_⟩⟩, lv⟩
  · rcases get i x h1 with h1 | ⟨h1, h1'⟩ <;> rcases get j x h2 with h2 | ⟨h2, h2'⟩
    · exact s.nd i j x h1 h2
    · rw [h2'] at h1; exact absurd h1 (nl i)
    · rw [h1'] at h2; exact absurd h2 (nl j)
    · omega
  · rcases get n x h2 with h | ⟨h, rfl⟩
    · have hn : n < τ.length := by rw [← s.len]; exact (List.getElem?_eq_some_iff.mp h).1
      rw [List.getElem?_append_left hn] at h1
      obtain ⟨ws, e1, r1⟩ := s.cell n ys x h1 h
      exact ⟨ws, e1, up r1⟩
    · have : n = τ.length := by rw [← s.len]; exact h
      subst this
      simp at h1; subst h1
      exact ⟨vs, e, up r⟩
  · rcases get i x h with h | ⟨_, rfl⟩
    · exact s.dom i x h
    · rw [e]; simp
  · rcases get i x z with z | ⟨_, rfl⟩
    · exact (s.ex x (.inl h)).2 i z
    · exact nex h
theorem pe_allocD (ha : PE X a (rdF G B W fa)) : PE X a (rd G B W fun ρ τ => (fa ρ τ).bind fun x => (match x.1 with
    | .lst xs => .ok (.ref x.2.length, x.2 ++ [some xs])
    | _ => .stuck)) := by
  refine ha.imp ?_
  rintro σ H Q ⟨Ex, φ, ρ, τ, hR, h⟩
  refine ⟨Ex, φ, ρ, τ, hR, ?_⟩
  cases e0 : fa ρ τ with
  | stuck => simp only [e0, Out.bind_stuck] at h
  | exc c p τ' => simp only [e0, Out.bind_exc] at h ⊢; exact h
  | ok q =>
  obtain ⟨d1, τ1⟩ := q
  simp only [e0, Out.bind_ok] at h ⊢
  intro φ1 v1 H1 st1 R1 p1
  cases d1 <;> simp only at h
  case lst xs =>
    obtain ⟨l, vs, rfl, n, e, s', r⟩ := p1.2 rfl xs rfl
    have nex : ¬ Ex l := fun z => (hR.sr.ex l z).1 n
    obtain ⟨s2, lv⟩ := s'.alloc e r nex
    have er : ER G (Lv (φ1 ++ [l]) (τ1 ++ [some xs]) Ex) (φ1 ++ [l]) H1 ρ σ := by
      refine ⟨R1.er.len, fun i d ei => ?_⟩
      obtain ⟨v, e2, q⟩ := hR.er.val i d ei
      refine ⟨v, e2, ?_⟩
      obtain ⟨k1, k2, k3⟩ := Step.gen3 hR.sr st1
      refine Rep.gen k1 (fun b ws nb rb => ?_) (fun i x hx => ?_) d v q
      · obtain ⟨m1, m2⟩ := k2 b ws nb rb
        refine ⟨fun z => ?_, m2⟩
        rcases lv_add1.mp ((lv b).mp z) with z | z
        · exact m1 z
        · subst z; exact Rd.ne rb n
      · have := k3 i x hx
        rw [List.getElem?_append_left (List.getElem?_eq_some_iff.mp this).1]; exact this
    refine h (φ1 ++ [l]) (.ref l) H1 ⟨?_, st1.keep, st1.dom, fun x hx => ?_⟩ ⟨s2, er, fun m hm lm => ?_, ?_⟩ (PD.not ?_)
    · obtain ⟨ψ, e⟩ := st1.pre
      exact ⟨ψ ++ [l], by rw [e, List.append_assoc]⟩
    · obtain ⟨i, ys, hx1, hx2⟩ := hx
      by_cases hi : i < φ1.length
      · rw [List.getElem?_append_left hi] at hx2
        rw [List.getElem?_append_left (by rw [← s'.len]; exact hi)] at hx1
        exact st1.new x ⟨i, ys, hx1, hx2⟩
      · rw [List.getElem?_append_right (by omega)] at hx2
        have : x = l := by
          cases q : i - φ1.length with
          | zero => rw [q] at hx2; simp at hx2; exact hx2.symm
          | succ n => rw [q] at hx2; simp at hx2
        subst this
        exact .inr n
    · intro i ys hi hy
      have hb := R1.bs
      rw [List.getElem?_append_left (by omega)] at hy
      exact R1.low m hm lm i ys hi hy
    · have := R1.bs
      simp; omega
    · simp only [Rep]
      exact ⟨l, by rw [← s'.len]; simp, rfl⟩
  all_goals exact h.elim
end
end M
set_option Elab.async false
set_option linter.all false
set_option maxRecDepth 100000
set_option maxHeartbeats 4000000
namespace M
open PySem PySem.Spec PyProof.Rows L2
theorem cellGet_some {τ : Store} {n : Nat} {xs : List D} : cellGet τ n = some xs ↔ τ[n]? = some (some xs) := by
  unfold cellGet
  cases e : τ[n]? with
  | none => simp
  | some c => cases c <;> simp
theorem cellOf_some {τ : Store} {d : D} {n : Nat} (h : cellOf τ d = some n) : d = .ref n ∧ ∃ xs, τ[n]? = some (some xs) := by
  unfold cellOf at h
  split at h
  · rw [Option.map_eq_some_iff] at h
    obtain ⟨xs, e, rfl⟩ := h
    exact ⟨rfl, xs, cellGet_some.mp e⟩
  · cases h
section
variable {X : Cx} {G : Gx} {B : Store} {W : WX} {a b c : Expr} {es : List Expr} {fa fb fc : Env → Store → Out (D × Store)} {ga : Env → Store → Out (List D × Store)} {pos p : Pos}
variable {Ex L : Addr → Prop} {φ : List Addr} {ρ : Env} {τ : Store} {σ : L2.St} {H : Hp}
theorem Rep.upd {l : Addr} {vs ws : List V} (hl : L l) (e : H l = some (.lst vs)) : ∀ {d : D} {v : V}, Rep G L φ H d v → Rep G L φ (upd H l (.lst ws)) d v := fun {d v} h =>
  Rep.gen (fun b us r => Rd.step r fun o q => by
    rw [upd_ne (fun z => ?_)]; exact q
    subst z
    rcases r with r | ⟨o', r⟩ <;> rw [e] at r <;> cases r) (fun b us n r => ⟨n, Rd.step r fun o q => by
    rw [upd_ne (fun z : b = l => n (z.symm ▸ hl))]; exact q⟩) (fun _ _ h => h) d v h
theorem RepL.upd {l : Addr} {vs ws : List V} (hl : L l) (e : H l = some (.lst vs)) : ∀ {ds : List D} {us : List V}, RepL G L φ H ds us → RepL G L φ (upd H l (.lst ws)) ds us := fun {ds us} h =>
  RepL.gen (fun b us r => Rd.step r fun o q => by
    rw [upd_ne (fun z => ?_)]; exact q
    subst z
    rcases r with r | ⟨o', r⟩ <;> rw [e] at r <;> cases r) (fun b us n r => ⟨n, Rd.step r fun o q => by
    rw [upd_ne (fun z : b = l => n (z.symm ▸ hl))]; exact q⟩) (fun _ _ h => h) ds us h
theorem live_set {n : Nat} {xs ys : List D} (h : τ[n]? = some (some xs)) (x : Addr) : live φ (τ.set n (some ys)) x ↔ live φ τ x := by
  have hn : n < τ.length := (List.getElem?_eq_some_iff.mp h).1
  unfold live
  constructor
  · rintro ⟨i, zs, h1, h2⟩
    by_cases hi : n = i
    · subst hi; exact ⟨n, xs, h, h2⟩
    · rw [List.getElem?_set_ne hi] at h1; exact ⟨i, zs, h1, h2⟩
  · rintro ⟨i, zs, h1, h2⟩
    by_cases hi : n = i
    · subst hi; exact ⟨n, ys, by rw [List.getElem?_set_self hn], h2⟩
    · exact ⟨i, zs, by rw [List.getElem?_set_ne hi]; exact h1, h2⟩
theorem lv_set {n : Nat} {xs ys : List D} (h : τ[n]? = some (some xs)) : Lv φ (τ.set n (some ys)) Ex = Lv φ τ Ex := by
  funext x
  unfold Lv
  rw [live_set h]
/-- a cell is written -/
theorem SR.write {n : Nat} {l : Addr} {xs ys : List D} {vs ws : List V} (s : SR G Ex φ τ H) (hn : τ[n]? = some (some xs)) (hl : φ[n]? = some l) (e : H l = some (.lst vs)) (r : RepL G (Lv φ τ Ex) φ H ys ws) :
    SR G Ex φ (τ.set n (some ys)) (upd H l (.lst ws)) := by
  have hlv : Lv φ τ Ex l := .inl ⟨n, xs, hn, hl⟩
  have hn' : n < τ.length := (List.getElem?_eq_some_iff.mp hn).1
  refine ⟨by rw [List.length_set]; exact s.len, s.nd, fun i zs x h1 h2 => ?_, fun i x h => ?_, fun x h => ⟨?_, (s.ex x h).2⟩⟩
  · rw [lv_set hn]
    by_cases hi : n = i
    · subst hi
      rw [List.getElem?_set_self hn'] at h1
      cases h1
      rw [hl] at h2; cases h2
      exact ⟨ws, upd_same, r.upd hlv e⟩
    · rw [List.getElem?_set_ne hi] at h1
      obtain ⟨us, e1, r1⟩ := s.cell i zs x h1 h2
      have : x ≠ l := fun z => hi (s.nd n i l hl (z ▸ h2))
      exact ⟨us, by rw [upd_ne this]; exact e1, r1.upd hlv e⟩
  · by_cases z : x = l
    · subst z; rw [upd_same]; simp
    · rw [upd_ne z]; exact s.dom i x h
  · have : x ≠ l := fun z => (s.ex x h).2 n (z ▸ hl)
    rw [upd_ne this]; exact (s.ex x h).1
theorem Step.write {n : Nat} {l : Addr} {xs ys : List D} {vs ws : List V} (hn : τ[n]? = some (some xs)) (hl : φ[n]? = some l) (e : H l = some (.lst vs)) : Step φ τ H φ (τ.set n (some ys)) (L2.upd H l (.lst ws)) := by
  refine ⟨⟨[], by simp⟩, fun x o h nl => ?_, fun x h => ?_, fun x h => .inl ((live_set hn x).mp h)⟩
  · rw [upd_ne (fun z : x = l => nl (z.symm ▸ ⟨n, xs, hn, hl⟩))]; exact h
  · by_cases z : x = l
    · subst z; rw [upd_same]; simp
    · rw [upd_ne z]; exact h
theorem R.write {n : Nat} {l : Addr} {xs ys : List D} {vs ws : List V} (r0 : R G B Ex φ ρ τ σ H) (hn : τ[n]? = some (some xs)) (hl : φ[n]? = some l) (e : H l = some (.lst vs)) (r : RepL G (Lv φ τ Ex) φ H ys ws)
    (hp : ∀ m, m ≤ B.length → n < m → M.lts m xs → M.lts m ys) : R G B Ex φ ρ (τ.set n (some ys)) σ (L2.upd H l (.lst ws)) := by
  have hn' : n < τ.length := (List.getElem?_eq_some_iff.mp hn).1
  refine ⟨r0.sr.write hn hl e r, r0.er.step r0.sr (Step.write hn hl e), fun m hm lm i zs hi hz => ?_, by rw [List.length_set]; exact r0.bs⟩
  by_cases hin : n = i
  · subst hin
    rw [List.getElem?_set_self hn'] at hz
    cases hz
    exact hp m hm hi (r0.low m hm lm n xs hi hn)
  · rw [List.getElem?_set_ne hin] at hz
    exact r0.low m hm lm i zs hi hz
theorem mayPut_lt {n m : Nat} {d : D} (h : mayPut B.length n d = true) (hm : m ≤ B.length) (hn : n < m) : M.lt m d := by
  unfold mayPut at h
  rw [Bool.or_eq_true, decide_eq_true_eq] at h
  rcases h with h | h
  · omega
  · exact noRef_lt d h
def mutName : Mut → Str
  | .append => "append" | .extend => "extend" | .popAt => "pop"
def mutId : Mut → String
  | .append => "list.append" | .extend => "list.extend" | .popAt => "list.pop"
theorem RepL.eraseIdx {L : Addr → Prop} {φ : List Addr} {H : Hp} : ∀ {xs : List D} {vs : List V} (k : Nat), RepL G L φ H xs vs → RepL G L φ H (xs.eraseIdx k) (vs.eraseIdx k)
  | [], _, k, h => by simp only [RepL] at h; subst h; simp only [List.eraseIdx_nil, RepL]
  | d :: ds, _, k, h => by
    simp only [RepL] at h
    obtain ⟨v, r, rfl, h1, h2⟩ := h
    cases k with
    | zero => exact h2
    | succ k =>
      simp only [List.eraseIdx_cons_succ, RepL]
      exact ⟨_, _, rfl, h1, RepL.eraseIdx k h2⟩
theorem lts_erase {n : Nat} : ∀ {xs : List D} (k : Nat), M.lts n xs → M.lts n (xs.eraseIdx k)
  | [], _, _ => by simp [M.lts]
  | d :: ds, 0, h => by simp only [M.lts] at h; exact h.2
  | d :: ds, k + 1, h => by
    simp only [List.eraseIdx_cons_succ, M.lts] at h ⊢
    exact ⟨h.1, lts_erase k h.2⟩
theorem lts_of_all {n m base : Nat} (hb : m ≤ base) (hn : n < m) : ∀ {zs : List D}, zs.all (mayPut base n) = true → M.lts m zs
  | [], _ => by simp [M.lts]
  | d :: ds, h => by
    rw [List.all_cons, Bool.and_eq_true] at h
    simp only [M.lts]
    refine ⟨?_, lts_of_all hb hn h.2⟩
    have := h.1
    unfold mayPut at this
    rw [Bool.or_eq_true, decide_eq_true_eq] at this
    rcases this with h | h
    · omega
    · exact noRef_lt d h
theorem mt_extendR : MtM X "list.extend" (fun x vs H Q => ∃ l b xs zs, x = .ref l ∧ vs = [.ref b] ∧ H l = some (.lst xs) ∧ Rd H b (.lst zs) ∧ xs.length + zs.length ≤ sizeLine ∧ Q .non (L2.upd H l (.lst (xs ++ zs)))) := by
  intro pins s σ H x vs v us Q I rx rv h
  obtain ⟨l, b, xs, zs, rfl, rfl, hH, hB, hz, q⟩ := h
  obtain ⟨u, rfl, ru⟩ := Vals.one rv
  cases rx
  cases ru
  obtain ⟨_, its, n, r, e⟩ := Inv.exact I (.inl hH)
  obtain ⟨_, its2, n2, r2, e2⟩ := Inv.exact I hB
  have z1 := r.length
  have z2 := r2.length
  have hs : its.toArray.size + its2.toArray.size ≤ sizeLine := by rw [List.size_toArray, List.size_toArray]; omega
  refine call_meets PySem.F.slot_list_extend ⟨_, e, rfl⟩ PySem.F.entry_list_extend (PySem.F.args_list_extend_2 _ _) (AutoSeq1.list_extend_list_list_0 l its.toArray n b its2.toArray n2 (fun z => ?_) (by omega) (by omega)) ⟨e, e2, ?_⟩
  · rw [Bool.and_eq_true] at z
    have z := z.2
    unfold Builtin.List.listTooLong at z
    simp at z
    simp at hs
    omega
  · exact ⟨.non, _, I.lset (t' := s.toks) hH e (f := fun x => x ++ its2.toArray) (its' := its ++ its2) (by simp) (r.append r2) (by rw [List.length_append]; exact hz), rfl, q⟩
theorem pe_mutD {apos : Pos} (m : Mut) (ha : PE X a (rd G B W fa)) (hb : PE X b (rd G B W fb)) (hbase : attributeBase a (mutName m) X.env (eval a X.env) = eval a X.env) (hs : starEach [b] X.env = (false, eval b X.env) :: starEach [] X.env) (hline : (apos.endLine == pos.line) = true) :
    PE X (.Call (.Attribute a (mutName m) apos) [b] [] pos) (rd G B W fun ρ τ => (fa ρ τ).bind fun x => (ofO (cellOf x.2 x.1)).bind fun n => (fb ρ x.2).bind fun y => (ofO (cellGet y.2 n)).bind fun xs =>
      (ofO (mutF B.length n xs (mutArg m y.2 y.1) m)).bind fun r => .ok (r.2, y.2.set n (some r.1))) := by
  have hp := pa_cons hb pa_nil hs
  have hfew : ((backTo pos (starEach [b] X.env)).all (fun x => !x.1) && (backToKw pos (keywordEach [] X.env)).all (fun x => x.1.isSome)
      && decide ([b].length + ([] : List Keyword).length + (if ([] : List Keyword).isEmpty then 0 else 1) < 30)) = true := by
    rw [hs]; rfl
  have main : ∀ (r : V → List V → Hp → VK → Prop), (∀ (Ex : Addr → Prop) (φ : List Addr) (ρ : Env) (τ2 : Store) (σ : L2.St) (H2 : Hp) (Q : VK) (n : Nat) (l : Addr) (d2 : D) (v2 : V) (xs ys : List D) (d : D), φ[n]? = some l → τ2[n]? = some (some xs) → mutF B.length n xs (mutArg m τ2 d2) m = some (ys, d) → R G B Ex φ ρ τ2 σ H2 → Rep G (Lv φ τ2 Ex) φ H2 d2 v2 →
      (∀ (v : V) (ws vs : List V), H2 l = some (.lst vs) → RepL G (Lv φ τ2 Ex) φ H2 ys ws → Rep G (Lv φ τ2 Ex) φ H2 d v → (∀ k, k ≤ B.length → n < k → M.lts k xs → M.lts k ys) → Q v (L2.upd H2 l (.lst ws))) → r (.ref l) [v2] H2 Q) →
      ∀ σ H Q, rd G B W (fun ρ τ => (fa ρ τ).bind fun x => (ofO (cellOf x.2 x.1)).bind fun n => (fb ρ x.2).bind fun y => (ofO (cellGet y.2 n)).bind fun xs => (ofO (mutF B.length n xs (mutArg m y.2 y.1) m)).bind fun r => .ok (r.2, y.2.set n (some r.1))) σ H Q → tBM X.K "list" r (rd G B W fa) (tCons (rd G B W fb) tNil) σ H Q := by
    rintro r k σ H Q ⟨Ex, φ, ρ, τ, h⟩
    refine ⟨Ex, φ, ρ, τ, (At.bind h PD.back).mono ?_⟩
    rintro v1 H1 ⟨d1, φ1, τ1, e1, st1, p1, h1⟩
    cases ec : cellOf τ1 d1 with
    | none => simp only [ec] at h1; exact h1.2.elim
    | some n =>
      simp only [ec, ofO_some, Out.bind_ok] at h1
      obtain ⟨rfl, xs0, hx0⟩ := cellOf_some ec
      have q1 := p1.1
      simp only [Rep] at q1
      obtain ⟨l, hl, rfl⟩ := q1
      obtain ⟨vs0, hv0, _⟩ := h1.1.sr.cell n xs0 l hx0 hl
      refine ⟨.inl ⟨rfl, vs0, SqL.of hv0⟩, Ex, φ1, ρ, τ1, (At.bind h1 PD.back).mono ?_⟩
      rintro v2 H2 ⟨d2, φ2, τ2, e2, st2, p2, h2⟩
      cases eg : cellGet τ2 n with
      | none => simp only [eg] at h2; exact h2.2.elim
      | some xs =>
        simp only [eg, ofO_some, Out.bind_ok] at h2
        rw [cellGet_some] at eg
        have hl2 := st2.get hl
        cases em : mutF B.length n xs (mutArg m τ2 d2) m with
        | none => simp only [em] at h2; exact h2.2.elim
        | some q =>
          obtain ⟨ys, d⟩ := q
          simp only [em, ofO_some, Out.bind_ok] at h2
          refine k Ex φ2 ρ τ2 σ H2 Q n l d2 v2 xs ys d hl2 eg em h2.1 p2.1 fun v ws vs hv rl rv hlt => ?_
          exact h2.2 φ2 v _ (Step.write eg hl2 hv) (h2.1.write eg hl2 hv rl hlt) (PD.not (by
            rw [lv_set eg]
            exact rv.upd (.inl ⟨n, xs, eg, hl2⟩) hv))
  have hbig := line_big
  cases m with
  | append =>
    refine (pe_bm PySem.F.plainAttrs_list PySem.F.slot_list_append PySem.F.type_list_append mt_append ha hp hbase hfew hline hs (by rfl)).imp (main _ ?_)
    intro Ex φ ρ τ2 σ H2 Q n l d2 v2 xs ys d hl hx em hR rp k
    simp only [mutF, mutArg, Option.ite_none_right_eq_some, Option.some.injEq, Prod.mk.injEq, reduceCtorEq, if_false] at em
    obtain ⟨⟨c1, c2⟩, rfl, rfl⟩ := em
    obtain ⟨vs, hv, rv⟩ := hR.sr.cell n xs l hx hl
    have hz := rv.length
    exact ⟨l, vs, v2, rfl, rfl, hv, by omega, k .non (vs ++ [v2]) vs hv (rv.append (RepL.one rp)) (by simp only [Rep]) fun m hm hn h => lts_append h (by simp only [M.lts]; exact ⟨mayPut_lt c2 hm hn, trivial⟩)⟩
  | extend =>
    refine (pe_bm PySem.F.plainAttrs_list PySem.F.slot_list_extend PySem.F.type_list_extend mt_extendR ha hp hbase hfew hline hs (by rfl)).imp (main _ ?_)
    intro Ex φ ρ τ2 σ H2 Q n l d2 v2 xs ys d hl hx em hR rp k
    simp only [mutArg, if_true] at em
    unfold mutF at em
    have hv2 := hR.sr.hd rp
    cases eh : hd τ2 d2 with
    | lst zs =>
      rw [eh] at hv2
      simp only [eh, Option.ite_none_right_eq_some, Option.some.injEq, Prod.mk.injEq] at em
      obtain ⟨⟨c1, c2⟩, rfl, rfl⟩ := em
      obtain ⟨vs, hv, rv⟩ := hR.sr.cell n xs l hx hl
      simp only [Val] at hv2
      obtain ⟨b, ws, rfl, hb2, rb⟩ := hv2
      have z1 := rv.length
      have z2 := rb.length
      exact ⟨l, b, vs, ws, rfl, rfl, hv, hb2, by omega, k .non (vs ++ ws) vs hv (rv.append rb) (by simp only [Rep]) fun m hm hn h => lts_append h (lts_of_all hm hn c2)⟩
    | _ => simp only [eh] at em; cases em
  | popAt =>
    refine (pe_bm PySem.F.plainAttrs_list PySem.F.slot_list_pop PySem.F.type_list_pop mt_popAt ha hp hbase hfew hline hs (by rfl)).imp (main _ ?_)
    intro Ex φ ρ τ2 σ H2 Q n l d2 v2 xs ys d hl hx em hR rp k
    simp only [mutArg, reduceCtorEq, if_false] at em
    unfold mutF at em
    cases d2 with
    | int i =>
      simp only [Option.ite_none_right_eq_some, Option.bind_eq_some_iff, Option.some.injEq, Prod.mk.injEq] at em
      obtain ⟨c1, j, c2, e, c3, rfl, rfl⟩ := em
      simp only [Rep] at rp
      subst rp
      obtain ⟨vs, hv, rv⟩ := hR.sr.cell n xs l hx hl
      obtain ⟨y, c4, ry⟩ := rv.get c3
      have hb : -(2 ^ 62) ≤ i ∧ i < 2 ^ 62 := by unfold bigI at c1; simpa only [Bool.and_eq_true, decide_eq_true_eq] using c1
      exact ⟨l, vs, i, j, y, rfl, rfl, hv, by omega, by omega, by rw [← rv.length]; exact c2, c4, k y (vs.eraseIdx j) vs hv (rv.eraseIdx j) ry fun m hm hn h => lts_erase j h⟩
    | _ => cases em
/-! ### a def's promise; its call -/
def spM (G : Gx) (fr : Bool) (np : Nat) (g : List D → Store → Out (D × Store)) : Sp := fun vs H Q E => vs.length = np ∧ ∃ Ex φ τ ds, SR G Ex φ τ H ∧ RepL G (Lv φ τ Ex) φ H ds vs ∧ match g ds τ with
  | .ok (d, τ') => ∀ v H', Step φ τ H φ τ' H' → SR G Ex φ τ' H' → (∀ n, Low n τ → Low n τ') → PD G fr Ex H φ τ' H' d v → Q v H'
  | .exc c p τ' => ∀ cls dd H', Step φ τ H φ τ' H' → SR G Ex φ τ' H' → (∀ n, Low n τ → Low n τ') → XRep G (Lv φ τ' Ex) φ H' c p cls dd → E cls dd H'
  | .stuck => False
/-- from arguments that lie to the promise -/
theorem at_call {fr : Bool} {np : Nat} {cl : List D → Store → Out (D × Store)} {ds : List D} {vs : List V} {Q : VK} (h : At G B W (PD G fr) Ex φ ρ τ (cl ds τ) σ H Q) (r : RepL G (Lv φ τ Ex) φ H ds vs) (hn : ds.length = np) :
    spM G fr np cl vs H Q (WE W σ) := by
  obtain ⟨hR, h⟩ := h
  refine ⟨by rw [← r.length]; exact hn, Ex, φ, τ, ds, hR.sr, r, ?_⟩
  have len : ∀ {τ' H'}, SR G Ex φ τ' H' → τ'.length = τ.length := fun s => by rw [← s.len, hR.sr.len]
  cases e : cl ds τ with
  | stuck => rw [e] at h; exact h
  | exc c p τ' =>
    rw [e] at h
    intro cls dd H' st s low x
    exact h φ cls dd H' st (hR.step st s (fun m hm lm => low m (hR.low m hm lm)) (by rw [len s]; exact hR.bs)) x
  | ok q =>
    obtain ⟨d, τ'⟩ := q
    rw [e] at h
    intro v H' st s low p
    exact h φ v H' st (hR.step st s (fun m hm lm => low m (hR.low m hm lm)) (by rw [len s]; exact hR.bs)) p
/-- all arguments by their names, in order -/
def KwB (K : PySem.W.Frag) (fd : FuncData) (ps : List Str) : Prop := ∀ (s : Shared) (ws : List Value), K.In s.heap → ws.length = ps.length → BindsTo s fd { pos := [], kw := ps.zip ws } (ps.zip ws)
theorem kwB_of {K : PySem.W.Frag} {x qual : Str} {params : Arguments} {body : List Stmt} {scope : Scope} {kws : List (Str × V)} {f : Addr} {fd : FuncData} {ps : List Str} (F : FunD K x qual params body scope [] kws f fd)
    (h : ∀ (kV doc pm : Value) (an : Option Addr) (cdv ct : Value) (ws : List Value), ws.length = ps.length → bindArgs (PySem.W.fnOf x qual params body scope Value.none kV doc pm an cdv ct) { pos := [], kw := ps.zip ws } = pure (ps.zip ws)) : KwB K fd ps := by
  obtain ⟨oc, od, dV, kV, doc, pm, an, cdv, ct, osl, rfl, lk, hcd, hD, hK⟩ := F.ex
  rcases hD with ⟨_, rfl⟩ | ⟨e, _⟩
  · intro s ws _ hl M A E Q hq
    rw [h kV doc pm an cdv ct ws hl]
    exact wpAny_pure hq
  · exact absurd rfl e
/-- what is known of a def where it may be called -/
structure FnAt (X : Cx) (G : Gx) (fr : Bool) (x : Str) (ps : List Str) (cl : List D → Store → Out (D × Store)) : Prop where
  at_ : ∃ (f : Addr) (fd : FuncData) (k : Nat), X.mg x = some (.ref f) ∧ PySem.W.keepIn X.K (.ref f) = true ∧ Binds X.K fd ps [] ∧ Room k X.A ∧ FnOk X.prog X.w X.K X.mg X.base (L2.CX X.prog X.w) k f fd ps (spM G fr ps.length cl) ∧ KwB X.K fd ps
theorem pe_call0S {CX : CXT} {k : Nat} {f : Addr} {fd : FuncData} {ps : List Str} {sp : Sp} {E : L2.St → XK} {x : Str} (F : FnOk X.prog X.w X.K X.mg X.base CX k f fd ps sp) (hr : Room k X.A) (hg : Gl X x) (hm : X.mg x = some (.ref f)) (hk : PySem.W.keepIn X.K (.ref f) = true) (hb : Binds X.K fd ps []) (hx : ∀ σ, PassesAt CX X σ (E σ))
    (hdb : (x == ("__debug__" : Str)) = false) : PE X (.Call (.Name x p) [] [] pos) (tCallS sp E tNil) := by
  refine ⟨fun pins s σ H Q I h => ?_⟩
  refine wpAny_Call_Name_kw (ld_glob I hg hm ?_ hdb)
  exact PySem.W.callWith_K0 I.kIn hk (run_fnS (us := []) F hr hb (hx σ) I .nil h)
theorem pe_callD {fr : Bool} {x : Str} {ps : List Str} {cl : List D → Store → Out (D × Store)} (tk : Takes X W) (F : FnAt X G fr x ps cl) (hg : Gl X x) (hdb : (x == ("__debug__" : Str)) = false) (ha : PA X (a :: es) (rdA G B W ga)) (hl : ∀ ρ τ ds τ', ga ρ τ = .ok (ds, τ') → ds.length = ps.length)
    (hs : starEach (a :: es) X.env = (false, eval a X.env) :: starEach es X.env ∧ (backTo pos (starEach es X.env)).any (·.1) = false) :
    PE X (.Call (.Name x p) (a :: es) [] pos) (tG G B W (PD G fr) fun ρ τ => (ga ρ τ).bind fun r => cl r.1 r.2) := by
  obtain ⟨f, fd, k, hm, hk, hb, hr, F, _⟩ := F.at_
  have key : ∀ σ H Q, tG G B W (PD G fr) (fun ρ τ => (ga ρ τ).bind fun r => cl r.1 r.2) σ H Q → tCallS (spM G fr ps.length cl) (WE W) (rdA G B W ga) σ H Q := by
    rintro σ H Q ⟨Ex, φ, ρ, τ, h⟩
    refine ⟨Ex, φ, ρ, τ, (At.bind h PD.back).mono ?_⟩
    rintro v1 H1 ⟨d1, φ1, τ1, e1, st1, p1, h1⟩
    exact at_call h1 p1 (hl _ _ _ _ e1)
  obtain ⟨h1, h2⟩ := hs
  exact (pe_callS F hr hg hm hk hb (fun σ => passAt tk σ) ha hdb h1 h2).imp key
theorem pe_call0D {fr : Bool} {x : Str} {cl : List D → Store → Out (D × Store)} (tk : Takes X W) (F : FnAt X G fr x [] cl) (hg : Gl X x) (hdb : (x == ("__debug__" : Str)) = false) :
    PE X (.Call (.Name x p) [] [] pos) (tG G B W (PD G fr) fun ρ τ => cl [] τ) := by
  obtain ⟨f, fd, k, hm, hk, hb, hr, F, _⟩ := F.at_
  refine (pe_call0S F hr hg hm hk hb (fun σ => passAt tk σ) hdb).imp ?_
  rintro σ H Q ⟨Ex, φ, ρ, τ, h⟩
  exact at_call (np := 0) h (by simp only [RepL]) rfl
end
end M
set_option Elab.async false
set_option linter.all false
set_option maxRecDepth 100000
set_option maxHeartbeats 4000000
/-! More forms: chains of three, count, len of a set, sorted the other way, ranges as lists, calls of values, calls by names. -/
namespace M
open PySem PySem.Spec PyProof.Rows L2
section
variable {X : Cx} {G : Gx} {B : Store} {W : WX} {a b c d : Expr} {es : List Expr} {fa fb fc fd : Env → Store → Out (D × Store)} {ga : Env → Store → Out (List D × Store)} {pos p p2 q : Pos}
def tChain3 (r r' r'' : R2) (ta tb tc td : TE) : TE := fun σ H Q => ta σ H fun x H1 => tb σ H1 fun y H2 => r x y H2 fun z H3 => ∃ k, z = .bl k ∧ if k = true then
  tc σ H3 fun w H4 => r' y w H4 fun z' H5 => ∃ k', z' = .bl k' ∧ if k' = true then td σ H5 fun u H6 => r'' w u H6 Q else Q (.bl false) H5
  else Q (.bl false) H3
theorem pe_chain3 {ta tb tc td : TE} {o1 o2 o3 : CmpOp} {r1 r2 r3 : R2} (h1 : OpR X (compareOp o1) r1) (h2 : OpR X (compareOp o2) r2) (h3 : OpR X (compareOp o3) r3) (ha : PE X a ta) (hb : PE X b tb) (hc : PE X c tc) (hd : PE X d td) (hm : lastMarks [o1, o2, o3] [b, c, d] = false) :
    PE X (.Compare a [o1, o2, o3] [b, c, d] pos) (tChain3 r1 r2 r3 ta tb tc td) := by
  refine ⟨fun pins s σ H Q I h => Compare_chain (thn (ha.run pins s σ H _ I h) ?_) hm⟩
  rintro v s1 ⟨x, H1, I1, e1, q1⟩
  refine chain_link (thn (hb.run pins s1 σ H1 _ I1 q1) ?_)
  rintro u s2 ⟨y, H2, I2, e2, q2⟩
  refine thn (h1 pins s2 σ H2 x y v u _ I2 e1 e2 q2) ?_
  rintro z s3 ⟨z', H3, I3, e3, k, rfl, q3⟩
  cases e3
  refine wpAny_truthy_bool ?_
  cases k with
  | false => exact ⟨.bl false, H3, I3, rfl, q3⟩
  | true =>
    simp only [if_true] at q3 ⊢
    refine chain_link (thn (hc.run pins s3 σ H3 _ I3 q3) ?_)
    rintro w s4 ⟨y2, H4, I4, e4, q4⟩
    refine thn (h2 pins s4 σ H4 y y2 u w _ I4 e2 e4 q4) ?_
    rintro z2 s5 ⟨z2', H5, I5, e5, k', rfl, q5⟩
    cases e5
    refine wpAny_truthy_bool ?_
    cases k' with
    | false => exact ⟨.bl false, H5, I5, rfl, q5⟩
    | true =>
      simp only [if_true] at q5 ⊢
      refine chain_last (thn (hd.run pins s5 σ H5 _ I5 q5) ?_)
      rintro t s6 ⟨y3, H6, I6, e6, q6⟩
      exact h3 pins s6 σ H6 y2 y3 w t _ I6 e4 e6 q6
theorem pt_chain3 {ta tb tc td : TE} {o1 o2 o3 : CmpOp} {r1 r2 r3 : R2} (h1 : OpR X (compareOp o1) r1) (h2 : OpR X (compareOp o2) r2) (h3 : OpR X (compareOp o3) r3) (ha : PE X a ta) (hb : PE X b tb) (hc : PE X c tc) (hd : PE X d td) (hm : lastMarks [o1, o2, o3] [b, c, d] = false) :
    PT X (.Compare a [o1, o2, o3] [b, c, d] pos) (tTest (tChain3 r1 r2 r3 ta tb tc td)) := by
  refine ⟨fun pins s σ H Q I h => isTrue_chain (thn (ha.run pins s σ H _ I h) ?_) hm⟩
  rintro v s1 ⟨x, H1, I1, e1, q1⟩
  refine test_link (thn (hb.run pins s1 σ H1 _ I1 q1) ?_)
  rintro u s2 ⟨y, H2, I2, e2, q2⟩
  refine thn (h1 pins s2 σ H2 x y v u _ I2 e1 e2 q2) ?_
  rintro z s3 ⟨z', H3, I3, e3, k, rfl, q3⟩
  cases e3
  refine wpAny_truthy_bool ?_
  cases k with
  | false =>
    obtain ⟨k, ek, q⟩ := q3
    cases ek
    exact ⟨H3, I3, q⟩
  | true =>
    simp only [if_true] at q3 ⊢
    refine test_link (thn (hc.run pins s3 σ H3 _ I3 q3) ?_)
    rintro w s4 ⟨y2, H4, I4, e4, q4⟩
    refine thn (h2 pins s4 σ H4 y y2 u w _ I4 e2 e4 q4) ?_
    rintro z2 s5 ⟨z2', H5, I5, e5, k', rfl, q5⟩
    cases e5
    refine wpAny_truthy_bool ?_
    cases k' with
    | false =>
      obtain ⟨k, ek, q⟩ := q5
      cases ek
      exact ⟨H5, I5, q⟩
    | true =>
      simp only [if_true] at q5 ⊢
      refine test_last (thn (hd.run pins s5 σ H5 _ I5 q5) ?_)
      rintro t s6 ⟨y3, H6, I6, e6, q6⟩
      refine thn (h3 pins s6 σ H6 y2 y3 w t _ I6 e4 e6 q6) ?_
      rintro z3 s7 ⟨z3', H7, I7, e7, k, rfl, q7⟩
      cases e7
      exact wpAny_truthy_bool ⟨H7, I7, q7⟩
def cmp3F (fa fb fc fd : Env → Store → Out (D × Store)) (F F' F'' : D → D → Option Bool) : Env → Store → Out (Bool × Store) := fun ρ τ => (fa ρ τ).bind fun x => (fb ρ x.2).bind fun y => (ofO (F (hd y.2 x.1) (hd y.2 y.1))).bind fun k =>
  if k = true then (fc ρ y.2).bind fun z => (ofO (F' (hd z.2 y.1) (hd z.2 z.1))).bind fun k' =>
    if k' = true then (fd ρ z.2).bind fun u => (ofO (F'' (hd u.2 z.1) (hd u.2 u.1))).bind fun k'' => .ok (k'', u.2) else .ok (false, z.2)
  else .ok (false, y.2)
abbrev cmp3D (fa fb fc fd : Env → Store → Out (D × Store)) (F F' F'' : D → D → Option Bool) : Env → Store → Out (D × Store) := fun ρ τ => (fa ρ τ).bind fun x => (fb ρ x.2).bind fun y => (ofO (F (hd y.2 x.1) (hd y.2 y.1))).bind fun k =>
  if k = true then (fc ρ y.2).bind fun z => (ofO (F' (hd z.2 y.1) (hd z.2 z.1))).bind fun k' =>
    if k' = true then (fd ρ z.2).bind fun u => (ofO (F'' (hd u.2 z.1) (hd u.2 u.1))).bind fun k'' => .ok (.bl k'', u.2) else .ok (.bl false, z.2)
  else .ok (.bl false, y.2)
theorem cmp3_eq {F F' F'' : D → D → Option Bool} : cmp3D fa fb fc fd F F' F'' = fun ρ τ => (cmp3F fa fb fc fd F F' F'' ρ τ).bind fun k => .ok (.bl k.1, k.2) := by
  funext ρ τ
  unfold cmp3D cmp3F
  cases fa ρ τ with
  | stuck => rfl
  | exc => rfl
  | ok x =>
    simp only [Out.bind_ok]
    cases fb ρ x.2 with
    | stuck => rfl
    | exc => rfl
    | ok y =>
      simp only [Out.bind_ok]
      cases F (hd y.2 x.1) (hd y.2 y.1) with
      | none => rfl
      | some k =>
        cases k with
        | false => rfl
        | true =>
          simp only [ofO_some, Out.bind_ok, if_true]
          cases fc ρ y.2 with
          | stuck => rfl
          | exc => rfl
          | ok z =>
            simp only [Out.bind_ok]
            cases F' (hd z.2 y.1) (hd z.2 z.1) with
            | none => rfl
            | some k' =>
              cases k' with
              | false => rfl
              | true =>
                simp only [ofO_some, Out.bind_ok, if_true]
                cases fd ρ z.2 with
                | stuck => rfl
                | exc => rfl
                | ok u =>
                  simp only [Out.bind_ok]
                  cases F'' (hd u.2 z.1) (hd u.2 u.1) <;> rfl
theorem at_cmp3 {F F' F'' : D → D → Option Bool} {σ : L2.St} {H : Hp} {Q : VK} (h : rd G B W (cmp3D fa fb fc fd F F' F'') σ H Q) :
    tChain3 (rOpB G F) (rOpB G F') (rOpB G F'') (rd G B W fa) (rd G B W fb) (rd G B W fc) (rd G B W fd) σ H Q := by
  obtain ⟨Ex, φ, ρ, τ, h⟩ := h
  refine ⟨Ex, φ, ρ, τ, (At.bind h PD.back).mono ?_⟩
  rintro v1 H1 ⟨d1, φ1, τ1, e1, st1, p1, h1⟩
  refine ⟨Ex, φ1, ρ, τ1, (At.bind h1 PD.back).mono ?_⟩
  rintro v2 H2 ⟨d2, φ2, τ2, e2, st2, p2, h2⟩
  have r1 := p1.1.step h1.1.sr st2
  cases eF : F (hd τ2 d1) (hd τ2 d2) with
  | none => simp only [eF] at h2; exact h2.2.elim
  | some d =>
    simp only [eF, ofO_some, Out.bind_ok] at h2
    refine ⟨Lv φ2 τ2 Ex, φ2, _, _, d, h2.1.sr.hd r1, h2.1.sr.hd p2.1, eF, d, rfl, ?_⟩
    cases d with
    | false => exact At.op h2 OpPost.bl
    | true =>
      simp only [if_true] at h2 ⊢
      refine ⟨Ex, φ2, ρ, τ2, (At.bind h2 PD.back).mono ?_⟩
      rintro v3 H3 ⟨d3, φ3, τ3, e3, st3, p3, h3⟩
      have r2 := p2.1.step h2.1.sr st3
      cases eF' : F' (hd τ3 d2) (hd τ3 d3) with
      | none => simp only [eF'] at h3; exact h3.2.elim
      | some d' =>
        simp only [eF', ofO_some, Out.bind_ok] at h3
        refine ⟨Lv φ3 τ3 Ex, φ3, _, _, d', h3.1.sr.hd r2, h3.1.sr.hd p3.1, eF', d', rfl, ?_⟩
        cases d' with
        | false => exact At.op h3 OpPost.bl
        | true =>
          simp only [if_true] at h3 ⊢
          refine ⟨Ex, φ3, ρ, τ3, (At.bind h3 PD.back).mono ?_⟩
          rintro v4 H4 ⟨d4, φ4, τ4, e4, st4, p4, h4⟩
          have r3 := p3.1.step h3.1.sr st4
          cases eF'' : F'' (hd τ4 d3) (hd τ4 d4) with
          | none => simp only [eF''] at h4; exact h4.2.elim
          | some d'' =>
            simp only [eF'', ofO_some, Out.bind_ok] at h4
            exact ⟨Lv φ4 τ4 Ex, φ4, _, _, d'', h4.1.sr.hd r3, h4.1.sr.hd p4.1, eF'', At.op h4 OpPost.bl⟩
theorem pe_cmp3D {o1 o2 o3 : CmpOp} {F F' F'' : D → D → Option Bool} (h1 : OpR X (compareOp o1) (rOpB G F)) (h2 : OpR X (compareOp o2) (rOpB G F')) (h3 : OpR X (compareOp o3) (rOpB G F'')) (ha : PE X a (rd G B W fa)) (hb : PE X b (rd G B W fb)) (hc : PE X c (rd G B W fc)) (hd : PE X d (rd G B W fd)) (hm : lastMarks [o1, o2, o3] [b, c, d] = false) :
    PE X (.Compare a [o1, o2, o3] [b, c, d] pos) (rd G B W (cmp3D fa fb fc fd F F' F'')) :=
  (pe_chain3 h1 h2 h3 ha hb hc hd hm).imp fun σ H Q h => at_cmp3 h
theorem pt_cmp3D {o1 o2 o3 : CmpOp} {F F' F'' : D → D → Option Bool} (h1 : OpR X (compareOp o1) (rOpB G F)) (h2 : OpR X (compareOp o2) (rOpB G F')) (h3 : OpR X (compareOp o3) (rOpB G F'')) (ha : PE X a (rd G B W fa)) (hb : PE X b (rd G B W fb)) (hc : PE X c (rd G B W fc)) (hd : PE X d (rd G B W fd)) (hm : lastMarks [o1, o2, o3] [b, c, d] = false) :
    PT X (.Compare a [o1, o2, o3] [b, c, d] pos) (rdT G B W (tst (cmp3D fa fb fc fd F F' F''))) := by
  refine (pt_chain3 h1 h2 h3 ha hb hc hd hm).imp fun σ H Q h => ?_
  rw [cmp3_eq] at h
  have h2 := tst_bl h
  rw [← cmp3_eq] at h2
  exact at_cmp3 h2
/-! ### count -/
theorem mt_countD (hu : X.A.units + 65 < cLine) (hG : G.K = X.K) : MtR X "list.count" (fun x xs H Q => ∃ (L : Addr → Prop) (φ : List Addr) (a b e : D) (y : V), xs = [y] ∧ Val G L φ H a x ∧ Rep G L φ H b y ∧ countF a b = some e ∧ ∀ v, Rep G L φ H e v → Q v H) := by
  intro pins s σ H x xs v us Q I rx rv h
  obtain ⟨L, φ, a, b, e, y, rfl, ha, hb, he, q⟩ := h
  unfold countF at he
  cases a with
  | lst xs =>
    simp only [Option.bind_eq_some_iff, Option.ite_none_right_eq_some, Option.some.injEq] at he
    obtain ⟨ps, e1, p, e2, ⟨c1, c2, c3⟩, rfl⟩ := he
    obtain ⟨u, rfl, ru⟩ := Vals.one rv
    obtain ⟨l, vs, its, T, o, n, rfl, rl, rvs, hT, ho, hc, hdt, hz, z, _⟩ := seq_at hG I (.inl rfl) ha rx
    cases z rfl
    obtain ⟨as, ra⟩ := Dp.readsAll I ps vs its (RepL.dp hG xs vs ps rl e1) rvs
    obtain ⟨bs, rb⟩ := Dp.reads I p y u (Rep.dp hG b y p hb e2) ru
    refine SeqAt.count_list_data (vs := its.toArray) ⟨o, ho, hc, n, hdt⟩ (by simpa using ra) rb c1 c2 (by omega) ?_
    exact ⟨.int _, H, I.kept (t' := s.toks + 1) (fun _ _ h => h), ⟨_, rfl⟩, q _ (by simp only [Rep])⟩
  | _ => simp only [Option.bind_none] at he; cases he
theorem pe_countD (hu : X.A.units + 65 < cLine) (hG : G.K = X.K) {apos : Pos} (ha : PE X a (rd G B W fa)) (hb : PE X b (rd G B W fb)) (hbase : attributeBase a "count" X.env (eval a X.env) = eval a X.env) (hs : starEach [b] X.env = (false, eval b X.env) :: starEach [] X.env) (hline : (apos.endLine == pos.line) = true) :
    PE X (.Call (.Attribute a "count" apos) [b] [] pos) (rd G B W fun ρ τ => (fa ρ τ).bind fun x => (ofO (isL (hd x.2 x.1))).bind fun _ => (fb ρ x.2).bind fun y => (ofO (countF (hd y.2 x.1) y.1)).bind fun d => .ok (d, y.2)) := by
  have hp := pa_cons hb pa_nil hs
  have hfew : ((backTo pos (starEach [b] X.env)).all (fun x => !x.1) && (backToKw pos (keywordEach [] X.env)).all (fun x => x.1.isSome)
      && decide ([b].length + ([] : List Keyword).length + (if ([] : List Keyword).isEmpty then 0 else 1) < 30)) = true := by
    rw [hs]; rfl
  refine (pe_bm PySem.F.plainAttrs_list PySem.F.slot_list_count PySem.F.type_list_count (mt_countD (G := G) hu hG) ha hp hbase hfew hline hs (by rfl)).imp ?_
  rintro σ H Q ⟨Ex, φ, ρ, τ, h⟩
  refine ⟨Ex, φ, ρ, τ, (At.bind h PD.back).mono ?_⟩
  rintro v1 H1 ⟨d1, φ1, τ1, e1, st1, p1, h1⟩
  have tv : ∀ xs : List D, hd τ1 d1 = .lst xs → tyV X.K "list" v1 H1 := fun xs ex => by
    have := h1.1.sr.hd p1.1
    rw [ex] at this
    simp only [Val] at this
    obtain ⟨l, vs, rfl, r, _⟩ := this
    exact .inl ⟨rfl, vs, .inl r⟩
  cases eL : hd τ1 d1 with
  | lst xs =>
    simp only [eL, isL, ofO_some, Out.bind_ok] at h1
    refine ⟨tv xs eL, Ex, φ1, ρ, τ1, (At.bind h1 PD.back).mono ?_⟩
    rintro v2 H2 ⟨d2, φ2, τ2, e2, st2, p2, h2⟩
    have r1 := p1.1.step h1.1.sr st2
    cases eF : countF (hd τ2 d1) d2 with
    | none => simp only [eF] at h2; exact h2.2.elim
    | some e =>
      simp only [eF, ofO_some, Out.bind_ok] at h2
      exact ⟨Lv φ2 τ2 Ex, φ2, _, _, e, v2, rfl, h2.1.sr.hd r1, p2.1, eF, fun v k => h2.done Grow.refl (PD.not k)⟩
  | _ => simp only [eL, isL] at h1; exact h1.2.elim
/-! ### sorted the other way -/
theorem pe_sortRD (hG : G.K = X.K) (hu : X.A.units + 65 < cLine) (hg : Gl X "sorted") (hm : X.mg "sorted" = none) (ha : PE X a (rd G B W fa)) (hs : starEach [a] X.env = (false, eval a X.env) :: starEach [] X.env) {kp cp : Pos} {j : Nat} {rev : Bool} :
    PE X (.Call (.Name "sorted" p) [a] [⟨some "reverse", .Constant (.bool rev) j cp, kp⟩] pos) (rdF G B W fun ρ τ => (fa ρ τ).bind fun x => (ofO (match hd x.2 x.1 with
      | .lst xs => sortF rev xs
      | .tup xs => sortF rev xs
      | _ => none)).bind fun d => .ok (d, x.2)) := by
  have hp := pa_cons ha pa_nil hs
  have ho : CallRK X (.builtin "sorted") [Str.ofString "reverse"] (fun xs zs H Q => zs = [.bl rev] ∧ rB G (fun d => match d with
      | .lst xs => sortF rev xs
      | .tup xs => sortF rev xs
      | _ => none) xs H Q) := by
    intro pins s σ H xs zs us ws Q I rv rz h
    obtain ⟨rfl, L, φ, a, d, x, rfl, hL, ha, e, q⟩ := h
    obtain ⟨u, rfl, ru⟩ := Vals.one rv
    obtain ⟨w, rfl, rw_⟩ := Vals.one rz
    cases rw_
    cases a with
    | lst xs => exact op_sort hG hu (.inr rfl) I (.inl rfl) ha ru hL e q
    | tup xs => exact op_sort hG hu (.inr rfl) I (.inr rfl) ha ru hL e q
    | _ => cases e
  refine (pe_callBK ho hg hm (by decide +kernel) hp (pk_cons (pe_bl (pos := cp)) pk_nil) (by decide) (by decide) (by rw [hs]; rfl) (by rw [hs]; rfl) (by rfl) (by rfl) (by rfl)).imp ?_
  intro σ H Q h
  obtain ⟨Ex, φ, ρ, τ, h⟩ := h
  refine ⟨Ex, φ, ρ, τ, (At.bind h PD.back).mono ?_⟩
  rintro v1 H1 ⟨d1, φ1, τ1, e1, st1, p1, h1⟩
  generalize eF : (match hd τ1 d1 with
      | .lst xs => sortF rev xs
      | .tup xs => sortF rev xs
      | _ => none) = o at h1
  cases o with
  | none => exact h1.2.elim
  | some d =>
    simp only [ofO_some, Out.bind_ok] at h1
    exact ⟨rfl, Lv φ1 τ1 Ex, φ1, _, d, v1, rfl, h1.1.lv, h1.1.sr.hd p1.1, eF, fun v H' k => At.op h1 k⟩
end
end M
set_option Elab.async false
set_option linter.all false
set_option maxRecDepth 100000
set_option maxHeartbeats 4000000
/-! len of a set of whole numbers; ranges as lists; calls of values; calls by names. -/
namespace M
open PySem PySem.Spec PyProof.Rows L2
theorem dedupI_mem {i : Int} : ∀ {l : List Int}, i ∈ dedupI l ↔ i ∈ l
  | [] => Iff.rfl
  | j :: r => by
    unfold dedupI
    split
    · rename_i h
      rw [dedupI_mem, List.mem_cons]
      constructor
      · exact .inr
      · rintro (rfl | h2)
        · exact h
        · exact h2
    · rw [List.mem_cons, List.mem_cons, dedupI_mem]
theorem dedupI_nodup : ∀ l : List Int, (dedupI l).Nodup
  | [] => .nil
  | j :: r => by
    unfold dedupI
    split
    · exact dedupI_nodup r
    · rename_i h
      exact List.nodup_cons.mpr ⟨fun z => h (dedupI_mem.mp z), dedupI_nodup r⟩
theorem dedup_len {l m : List Int} (h : m.Nodup) (k : ∀ i, i ∈ m ↔ i ∈ l) : m.length = (dedupI l).length :=
  ((List.perm_ext_iff_of_nodup h (dedupI_nodup l)).mpr fun i => by rw [k, dedupI_mem]).length_eq
theorem firstMet_ok : ∀ (l acc : List Int), acc.Nodup → (l.foldl PyProof.Rows.step_dedup acc).Nodup ∧ ∀ i, i ∈ l.foldl PyProof.Rows.step_dedup acc ↔ i ∈ acc ∨ i ∈ l
  | [], acc, h => ⟨h, fun i => by simp⟩
  | j :: l, acc, h => by
    rw [List.foldl_cons]
    by_cases hj : j ∈ acc
    · have e : PyProof.Rows.step_dedup acc j = acc := by
        unfold PyProof.Rows.step_dedup
        rw [if_pos]
        rw [List.any_eq_true]
        exact ⟨j, hj, by simp⟩
      rw [e]
      obtain ⟨h1, h2⟩ := firstMet_ok l acc h
      refine ⟨h1, fun i => ?_⟩
      rw [h2, List.mem_cons]
      constructor
      · rintro (z | z)
        · exact .inl z
        · exact .inr (.inr z)
      · rintro (z | rfl | z)
        · exact .inl z
        · exact .inl hj
        · exact .inr z
    · have e : PyProof.Rows.step_dedup acc j = acc ++ [j] := by
        unfold PyProof.Rows.step_dedup
        rw [if_neg]
        rw [List.any_eq_true]
        rintro ⟨x, hx, hxj⟩
        exact hj (by simp at hxj; exact hxj ▸ hx)
      rw [e]
      obtain ⟨h1, h2⟩ := firstMet_ok l (acc ++ [j]) (by
        rw [List.nodup_append]
        exact ⟨h, by simp, fun a ha b hb => by simp at hb; subst hb; exact fun z => hj (z ▸ ha)⟩)
      refine ⟨h1, fun i => ?_⟩
      rw [h2, List.mem_cons, List.mem_append, List.mem_singleton]
      constructor
      · rintro ((z | z) | z)
        · exact .inl z
        · exact .inr (.inl z)
        · exact .inr (.inr z)
      · rintro (z | z | z)
        · exact .inl (.inl z)
        · exact .inl (.inr z)
        · exact .inr z
theorem firstMet_eq (ns : List Int) : PyProof.Rows.firstMet (fun i => ns.getD i 0) ns.length = ns.foldl PyProof.Rows.step_dedup [] := by
  unfold PyProof.Rows.firstMet
  congr 1
  apply List.ext_getElem
  · simp
  · intro i h1 h2
    simp
    rw [List.getElem?_eq_getElem h2]; rfl
section
variable {X : Cx} {G : Gx} {B : Store} {W : WX} {a b c d : Expr} {es : List Expr} {fa fb fc fd : Env → Store → Out (D × Store)} {ga : Env → Store → Out (List D × Store)} {pos p p2 q : Pos}
theorem pe_lensetD (hG : G.K = X.K) (hc : X.calm = true) (hg : Gl X "len") (hm : X.mg "len" = none) (hg2 : Gl X "set") (hm2 : X.mg "set" = none) (ha : PE X a (rd G B W fa)) (hs : starEach [a] X.env = (false, eval a X.env) :: starEach [] X.env) :
    PE X (.Call (.Name "len" p) [.Call (.Name "set" p2) [a] [] q] [] pos) (rd G B W fun ρ τ => (fa ρ τ).bind fun x => (ofO (lensetF (hd x.2 x.1))).bind fun d => .ok (d, x.2)) := by
  refine ⟨fun pins s σ H Q I h => ?_⟩
  obtain ⟨Ex, φ, ρ, τ, h⟩ := h
  refine Call_ (ld_blt I hg hm boot_len (PyProof.Rows.callWith_builtin1 (args_cons (Call_ (ld_blt I hg2 hm2 boot_set (PyProof.Rows.callWith_type1 (args_cons ?_ hs) hs (by rfl)) (by decide) (by decide)) (by rfl)) (by rfl)) (by rfl) (by rfl)) (by decide) (by decide)) (by rfl)
  refine thn (ha.run pins s σ H _ I ⟨Ex, φ, ρ, τ, At.bind h PD.back⟩) ?_
  rintro v s1 ⟨x, H1, I1, r1, d1, φ1, τ1, e1, st1, p1, h1⟩
  refine args_nil ?_
  have hv := h1.1.sr.hd p1.1
  generalize hd τ1 d1 = dd at hv h1
  unfold lensetF at h1
  have fini : ∀ (is : List Int) (h' : Heap) (tk : Nat) (o : Obj) (es : Array (Int × Value)) (ep : Nat) (t : SetTable), At G B W (PD G false) Ex φ1 ρ τ1 (.ok (.int (dedupI is).length, τ1)) σ H1 Q → (∀ b o, s1.heap.get? b = some o → h'.get? b = some o) → h'.get? s1.heap.objs.size = some o → o.ExactSet → o.data = .set es ep t → t.fits es.size = true → (es.size : Int) < 2 ^ 63 → es.size = (dedupI is).length →
      wpAny (model X.prog X.w) X.A (spliced (backTo pos (starEach [] X.env))) (fun vs s₂ => wpAny (model X.prog X.w) X.A (PySem.call (.builtin "len") (.ref s1.heap.objs.size :: vs)) (EP X pins σ Q) X.xe s₂) X.xe { heap := h', gens := s1.gens, drawn := s1.drawn, toks := tk, os := s1.os } := by
    intro is h' tk o es ep t hA hk ho hx hdt hf h63 hsz
    refine args_nil (call_len_set ho hx hdt hf h63 ?_)
    refine ⟨.int es.size, H1, (I1.kept (t' := tk) hk).kept (t' := tk + 1 + 1) (fun _ _ h => h), ⟨_, rfl⟩, ?_⟩
    rw [hsz]
    exact At.op hA OpPost.int
  cases dd with
  | lst xs =>
    simp only at h1
    cases ei : ints? xs with
    | none => simp only [ei] at h1; exact h1.2.elim
    | some is =>
      simp only [ei, Option.bind_some] at h1
      by_cases hz : is.length ≤ 1000
      · rw [if_pos hz] at h1
        simp only [ofO_some, Out.bind_ok] at h1
        simp only [Val] at hv
        obtain ⟨l, vs, rfl, hq, rl⟩ := hv
        have := ints_rep rl ei
        subst this
        cases r1
        obtain ⟨its, rv, pl, _⟩ := I1.list (.inl hq)
        have hlen : its.toArray.size = is.length := by rw [List.size_toArray, ← rv.length, List.length_map]
        have hsb : its.toArray.size + 1 < scanBound := by rw [hlen]; have : (4000 : Nat) < scanBound := by decide
                                                          omega
        refine call_set_list (I1.ok.hd hc) pl.isList (RZ.intsAre_vals rv) hsb fun h' tk hS hk => ?_
        rw [hlen, firstMet_eq] at hS
        obtain ⟨o, es, ep, t, g1, g2, g3, g4, g5, g6, g7, g8⟩ := hS
        obtain ⟨k1, k2⟩ := firstMet_ok is [] .nil
        have e9 : es.size = (dedupI is).length := by rw [g8]; exact dedup_len k1 fun i => by rw [k2]; simp
        refine fini is h' tk o es ep t h1 (fun b o hb => hk b o (Heap.lt_size hb) hb) g1 g2 g3 g7 ?_ e9
        have : scanBound < 2 ^ 62 := by decide
        omega
      · rw [if_neg hz] at h1; exact h1.2.elim
  | tup xs =>
    simp only at h1
    cases ei : ints? xs with
    | none => simp only [ei] at h1; exact h1.2.elim
    | some is =>
      simp only [ei, Option.bind_some] at h1
      by_cases hz : is.length ≤ 1000
      · rw [if_pos hz] at h1
        simp only [ofO_some, Out.bind_ok] at h1
        simp only [Val, Rep] at hv
        obtain ⟨l, vs, rfl, hq, rl⟩ := hv
        rw [hG] at hq
        have := ints_rep rl ei
        subst this
        cases r1
        obtain ⟨its, rv, pl, _⟩ := I1.tuple hq
        have hsb : is.length + 1 < scanBound := by have : (4000 : Nat) < scanBound := by decide
                                                   omega
        refine call_set_tupI is (I1.ok.hd hc) pl (RZ.intsAre_vals rv) hsb fun h' tk c hS hcl hk => ?_
        obtain ⟨o, es, ep, t, g1, g2, g3, g4, g5, g6, g7, g8, g9, _⟩ := hS
        have e9 : es.size = (dedupI is).length := by
          have := dedup_len (l := is) g5 fun i => by rw [← g6]; simp
          rw [List.length_map] at this
          rw [← this]; simp
        refine fini is h' tk o es ep t h1 hk g1 g2 g3 g8 ?_ e9
        have : scanBound < 2 ^ 62 := by decide
        omega
      · rw [if_neg hz] at h1; exact h1.2.elim
  | _ => simp only [Option.bind_none] at h1; exact h1.2.elim
end
end M
set_option Elab.async false
set_option linter.all false
set_option maxRecDepth 100000
set_option maxHeartbeats 4000000
/-! Ranges as lists; calls of values; calls by names. -/
namespace M
open PySem PySem.Spec PyProof.Rows L2
section
variable {X : Cx} {G : Gx} {B : Store} {W : WX} {a b c d e : Expr} {es : List Expr} {fa fb fc fd : Env → Store → Out (D × Store)} {ga : Env → Store → Out (List D × Store)} {pos p p2 q : Pos}
theorem run_fnSK {CX : CXT} {k : Nat} {f : Addr} {fd : FuncData} {ps : List Str} {sp : Sp} {E : L2.St → XK} {pins : List (Addr × Obj)} {σ : L2.St} {H : Hp} {s : Shared} {Q : VK} {us : List Value} {vs : List V}
    (F : FnOk X.prog X.w X.K X.mg X.base CX k f fd ps sp) (hr : Room k X.A) (hb : KwB X.K fd ps) (hx : PassesAt CX X σ (E σ)) (I : Inv X pins σ H s) (r : Vals vs us) (h : sp vs H Q (E σ)) :
    wpAny (model X.prog X.w) X.A (PySem.call (Value.ref f) [] (ps.zip us)) (EP X pins σ Q) X.xe s := by
  have hl : us.length = ps.length := by rw [← r.length]; exact F.len vs H Q (E σ) h
  refine wpAny_call (codeAny_mono (F.run X.A X.stack s H { pos := [], kw := ps.zip us } us vs Q (E σ) hr I.env0 (hb s us I.kIn hl) r h) fun r s' hq => ?_)
  cases r with
  | error e => exact hx pins H s e s' I hq
  | ok fl =>
    cases fl with
    | ret u => exact Inv.after I hq
    | _ => exact False.elim hq
theorem pe_callKS {CX : CXT} {k : Nat} {f : Addr} {fd : FuncData} {ps : List Str} {sp : Sp} {E : L2.St → XK} {x : Str} {t : TA} {kws : List Keyword} (F : FnOk X.prog X.w X.K X.mg X.base CX k f fd ps sp) (hr : Room k X.A) (hg : Gl X x) (hm : X.mg x = some (.ref f)) (hk : PySem.W.keepIn X.K (.ref f) = true) (hb : KwB X.K fd ps) (hx : ∀ σ, PassesAt CX X σ (E σ))
    (ha : PK X kws t) (hdb : (x == ("__debug__" : Str)) = false) (h1 : ((backToKw pos (keywordEach kws X.env)).all fun x => x.1.isSome) = true) (h2 : (backToKw pos (keywordEach kws X.env)).filterMap (fun x => x.1) = ps) (h3 : (((backTo pos (starEach [] X.env)).any fun x => x.1) || (backToKw pos (keywordEach kws X.env)).any fun x => x.1.isNone) = false) :
    PE X (.Call (.Name x p) [] kws pos) (tCallS sp E t) := by
  refine ⟨fun pins s σ H Q I h => ?_⟩
  refine wpAny_Call_Name_kw (ld_glob I hg hm ?_ hdb)
  refine PySem.W.callWith_KW0 I.kIn hk h1 (thn (ha.run pos pins s σ H _ I h) ?_) h3
  rintro us s1 ⟨vs, H1, I1, r, q⟩
  rw [h2]
  exact ⟨I1.kIn, run_fnSK F hr hb (hx σ) I1 r q⟩
/-- the names of a call -/
def kwNames (kws : List Keyword) : List (Option Str) := kws.map (·.arg)
theorem kwEach : ∀ (kws : List Keyword) (env : PySem.Env), keywordEach kws env = kws.map fun k => (k.arg, eval k.value env)
  | [], _ => rfl
  | k :: kws, env => by
    have ih := kwEach kws env
    cases k with
    | mk nm v ps =>
      show (nm, eval v env) :: keywordEach kws env = _
      rw [ih]; rfl
theorem kw_facts {kws : List Keyword} {ps : List Str} {pos : Pos} {env : PySem.Env} (h : kws.map (·.arg) = ps.map some) :
    ((backToKw pos (keywordEach kws env)).all fun x => x.1.isSome) = true ∧ (backToKw pos (keywordEach kws env)).filterMap (fun x => x.1) = ps ∧ (((backTo pos (starEach [] env)).any fun x => x.1) || (backToKw pos (keywordEach kws env)).any fun x => x.1.isNone) = false := by
  have e : (backToKw pos (keywordEach kws env)).map (·.1) = ps.map some := by
    rw [← h, kwEach]
    unfold backToKw
    simp [List.map_map, Function.comp_def]
  generalize backToKw pos (keywordEach kws env) = l at e
  refine ⟨?_, ?_, ?_⟩
  · rw [List.all_eq_true]
    intro x hx
    have : x.1 ∈ ps.map some := by rw [← e]; exact List.mem_map_of_mem hx
    obtain ⟨y, _, ey⟩ := List.mem_map.mp this
    rw [← ey]; rfl
  · have : l.filterMap (fun x => x.1) = (l.map (·.1)).filterMap id := by rw [List.filterMap_map]; rfl
    rw [this, e]
    simp [List.filterMap_map, Function.comp_def]
  · show (false || _) = false
    rw [Bool.false_or, List.any_eq_false]
    intro x hx
    have : x.1 ∈ ps.map some := by rw [← e]; exact List.mem_map_of_mem hx
    obtain ⟨y, _, ey⟩ := List.mem_map.mp this
    rw [← ey]; simp
theorem _root_.L2.PK.imp {kws : List Keyword} {t t' : TA} (h : PK X kws t) (k : ∀ σ H Q, t' σ H Q → t σ H Q) : PK X kws t' := ⟨fun pos pins s σ H Q I hq => h.run pos pins s σ H Q I (k σ H Q hq)⟩
theorem pk_nilD : PK X [] (rdA G B W fun _ τ => .ok ([], τ)) :=
  PK.imp pk_nil fun σ H Q ⟨Ex, φ, ρ, τ, h⟩ => h.done Grow.refl (by simp only [PL, RepL])
theorem pk_consD {nm : Option Str} {kp : Pos} {kws : List Keyword} (ha : PE X a (rd G B W fa)) (hr : PK X kws (rdA G B W ga)) :
    PK X (⟨nm, a, kp⟩ :: kws) (rdA G B W fun ρ τ => (fa ρ τ).bind fun x => (ga ρ x.2).bind fun q => .ok (x.1 :: q.1, q.2)) := by
  refine PK.imp (pk_cons ha hr) ?_
  rintro σ H Q ⟨Ex, φ, ρ, τ, h⟩
  refine ⟨Ex, φ, ρ, τ, (At.bind h PL.back).mono ?_⟩
  rintro v1 H1 ⟨d1, φ1, τ1, e1, st1, p1, h1⟩
  refine ⟨Ex, φ1, ρ, τ1, (At.bind h1 PL.back).mono ?_⟩
  rintro v2 H2 ⟨d2, φ2, τ2, e2, st2, p2, h2⟩
  have r1 := p1.1.step h1.1.sr st2
  refine h2.done Grow.refl ?_
  simp only [PL, RepL]
  exact ⟨v1, v2, rfl, r1, p2⟩
theorem pe_callKD {fr : Bool} {x : Str} {ps : List Str} {cl : List D → Store → Out (D × Store)} {kws : List Keyword} (tk : Takes X W) (F : FnAt X G fr x ps cl) (hg : Gl X x) (hdb : (x == ("__debug__" : Str)) = false) (ha : PK X kws (rdA G B W ga)) (hl : ∀ ρ τ ds τ', ga ρ τ = .ok (ds, τ') → ds.length = ps.length)
    (hn : kws.map (·.arg) = ps.map some) :
    PE X (.Call (.Name x p) [] kws pos) (tG G B W (PD G fr) fun ρ τ => (ga ρ τ).bind fun r => cl r.1 r.2) := by
  obtain ⟨f, fd, k, hm, hk, hb, hr, F, kw⟩ := F.at_
  have key : ∀ σ H Q, tG G B W (PD G fr) (fun ρ τ => (ga ρ τ).bind fun r => cl r.1 r.2) σ H Q → tCallS (spM G fr ps.length cl) (WE W) (rdA G B W ga) σ H Q := by
    rintro σ H Q ⟨Ex, φ, ρ, τ, h⟩
    refine ⟨Ex, φ, ρ, τ, (At.bind h PD.back).mono ?_⟩
    rintro v1 H1 ⟨d1, φ1, τ1, e1, st1, p1, h1⟩
    exact at_call h1 p1 (hl _ _ _ _ e1)
  obtain ⟨h1, h2, h3⟩ := kw_facts (pos := pos) (env := X.env) hn
  exact (pe_callKS F hr hg hm hk kw (fun σ => passAt tk σ) ha hdb h1 h2 h3).imp key
/-- a call of a value that is a def -/
theorem pe_callvD {i : Nat} {x : Str} {cl : Calls} (tk : Takes X W) (hN : X.N[i]? = some x) (hv : Vis X.env.scope x) (hdb : (x == ("__debug__" : Str)) = false) (hcd : (x == ("__classdict__" : Str)) = false)
    (hF : ∀ f ds τ, cl f ds τ ≠ .stuck → ∃ fr ps, ds.length = ps.length ∧ FnAt X G fr (G.nm f) ps (cl f)) (gm : G.mg = X.mg) (ha : PA X (a :: es) (rdA G B W ga))
    (hs : starEach (a :: es) X.env = (false, eval a X.env) :: starEach es X.env ∧ (backTo pos (starEach es X.env)).any (·.1) = false) :
    PE X (.Call (.Name x p) (a :: es) [] pos) (rd G B W fun ρ τ => (match ρ[i]? with
      | some (some (.fn f)) => (match ga ρ τ with
        | .ok r => cl f r.1 r.2
        | _ => .stuck)
      | _ => .stuck)) := by
  obtain ⟨hs1, hs2⟩ := hs
  refine ⟨fun pins s σ H Q I h => ?_⟩
  obtain ⟨Ex, φ, ρ, τ, h⟩ := h
  cases e : ρ[i]? with
  | none => simp only [e] at h; exact h.2.elim
  | some o =>
    cases o with
    | none => simp only [e] at h; exact h.2.elim
    | some d =>
      simp only [e] at h
      cases d with
      | fn f =>
        dsimp only at h
        cases eg : ga ρ τ with
        | stuck => rw [eg] at h; exact h.2.elim
        | exc => rw [eg] at h; exact h.2.elim
        | ok r0 =>
        obtain ⟨ds, τ0⟩ := r0
        rw [eg] at h
        dsimp only at h
        have hne : cl f ds τ0 ≠ .stuck := fun z => by rw [z] at h; exact h.2
        obtain ⟨fr, ps, hps, F⟩ := hF f ds τ0 hne
        obtain ⟨f', fd, k, hm, hk, hb, hr, F, _⟩ := F.at_
        obtain ⟨v, e1, r⟩ := h.1.er.val i _ e
        simp only [Rep] at r
        obtain ⟨fa, hfa, rfl⟩ := r
        rw [gm] at hfa
        rw [hfa] at hm
        cases hm
        refine wpAny_Call_Name_kw (thn ((pe_var (pos := p) hN hv hdb hcd).run pins s σ H (fun v' H' => v' = .ref f' ∧ H' = H) I ⟨_, e1, rfl, rfl⟩) ?_)
        rintro v1 s1 ⟨v1', H1, I1, r1, rfl, rfl⟩
        cases r1
        have h' : At G B W (PD G false) Ex φ ρ τ ((ga ρ τ).bind fun r => cl f r.1 r.2) σ H1 Q := by rw [eg]; exact h
        have hA := At.bind (P2 := PL G) h' PD.back
        refine PySem.W.callWith_K I1.kIn hk (thn (ha.run pos pins s1 σ H1 _ I1 ⟨Ex, φ, ρ, τ, hA⟩) ?_) hs1 hs2
        rintro us s2 ⟨vs, H2, I2, r2, d1, φ1, τ1, e2, st1, p1, h1⟩
        refine ⟨I2.kIn, run_fnS F hr hb (passAt tk σ) I2 r2 ?_⟩
        rw [eg] at e2
        cases e2
        exact at_call (fr := fr) (h1.weakP fun q => ⟨q.1, fun z => by cases z⟩) p1 hps
      | _ => exact h.2.elim
/-! ### ranges as lists -/
theorem rg_rep {L : Addr → Prop} {φ : List Addr} {H : Hp} {lo hi : Int} : RepL G L φ H (intRange lo hi) (rgV lo hi) := by
  unfold intRange rgV
  generalize List.range (hi - lo).toNat = l
  induction l with
  | nil => simp only [List.map_nil, RepL]
  | cons x xs ih => simp only [List.map_cons, RepL, Rep]; exact ⟨_, _, rfl, rfl, ih⟩
theorem bigI_iff' {i : Int} : bigI i = true ↔ (-(2 ^ 62) ≤ i ∧ i < 2 ^ 62) := by
  unfold bigI; simp only [Bool.and_eq_true, decide_eq_true_eq]
theorem pe_lrange1D (hc : X.calm = true) {tp : Bool} (hgr : Gl X "range") (hmr : X.mg "range" = none) (hg : Gl X (if tp = true then "tuple" else "list")) (hm : X.mg (if tp = true then "tuple" else "list") = none) (ha : PE X a (rd G B W fa)) (hs : starEach [a] X.env = (false, eval a X.env) :: starEach [] X.env) :
    PE X (.Call (.Name (if tp = true then "tuple" else "list") p) [.Call (.Name "range" p2) [a] [] q] [] pos) (rdF G B W fun ρ τ => (fa ρ τ).bind fun x => (match x.1 with
      | .int j => if bigI j = true ∧ j ≤ 1000000 then .ok (seqD tp (intRange 0 j), x.2) else .stuck
      | _ => .stuck)) := by
  have hp := prg_1 (p := p2) (pos := q) hgr hmr ha hs
  have go : ∀ (t : TE), (∀ (σ : L2.St) (H : Hp) (Q : VK), (rd G B W fa) σ H (fun x H1 => ∃ n, x = V.int n ∧ RgOk 0 n ∧ ∀ (q : Addr), H1 q = none → Q (V.ref q) (upd H1 q (if tp = true then HO.tup (rgV 0 n) else HO.lst (rgV 0 n)))) → t σ H Q) → ∀ (σ : L2.St) (H : Hp) (Q : VK), rdF G B W (fun ρ τ => (fa ρ τ).bind fun x => (match x.1 with
      | .int j => if bigI j = true ∧ j ≤ 1000000 then .ok (seqD tp (intRange 0 j), x.2) else .stuck
      | _ => .stuck)) σ H Q → t σ H Q := by
    intro t k σ H Q h
    refine k σ H Q ?_
    obtain ⟨Ex, φ, ρ, τ, h⟩ := h
    refine ⟨Ex, φ, ρ, τ, (At.bind h PD.back).mono ?_⟩
    rintro v1 H1 ⟨d1, φ1, τ1, e1, st1, p1, h1⟩
    cases d1 <;> simp only at h1
    case int j =>
      have qq := p1.1
      simp only [Rep] at qq
      subst qq
      split at h1
      · rename_i hcc
        rw [bigI_iff'] at hcc
        refine ⟨j, rfl, ⟨by omega, by omega, hcc.1.1, hcc.1.2, by omega⟩, fun q nq => ?_⟩
        cases tp with
        | true =>
          simp only [seqD, if_true] at h1 ⊢
          exact At.op h1 (OpPost.newTup rg_rep nq)
        | false =>
          simp only [seqD, Bool.false_eq_true, if_false] at h1 ⊢
          exact At.op h1 (OpPost.newLst h1.1.lv rg_rep nq)
      · exact h1.2.elim
    all_goals exact h1.2.elim
  cases tp with
  | true => exact (pe_tupRg (p := p) (pos := pos) hc hg hm hp (by rfl)).imp (go _ fun σ H Q h => by
      obtain ⟨Ex, φ, ρ, τ, h⟩ := h
      exact ⟨Ex, φ, ρ, τ, h.mono fun v H1 ⟨n, e, r, k⟩ => ⟨n, e, r, fun q nq => by simpa using k q nq⟩⟩)
  | false => exact (pe_listRg (p := p) (pos := pos) hc hg hm hp (by rfl)).imp (go _ fun σ H Q h => by
      obtain ⟨Ex, φ, ρ, τ, h⟩ := h
      exact ⟨Ex, φ, ρ, τ, h.mono fun v H1 ⟨n, e, r, k⟩ => ⟨n, e, r, fun q nq => by simpa using k q nq⟩⟩)
theorem pe_lrange2D (hc : X.calm = true) {tp : Bool} (hgr : Gl X "range") (hmr : X.mg "range" = none) (hg : Gl X (if tp = true then "tuple" else "list")) (hm : X.mg (if tp = true then "tuple" else "list") = none) (ha : PE X a (rd G B W fa)) (hb : PE X b (rd G B W fb)) (hs : starEach [a, b] X.env = (false, eval a X.env) :: starEach [b] X.env) (hs2 : starEach [b] X.env = (false, eval b X.env) :: starEach [] X.env) :
    PE X (.Call (.Name (if tp = true then "tuple" else "list") p) [.Call (.Name "range" p2) [a, b] [] q] [] pos) (rdF G B W fun ρ τ => (fa ρ τ).bind fun x => (fb ρ x.2).bind fun y => (match x.1, y.1 with
      | .int i, .int j => if bigI i = true ∧ bigI j = true ∧ j - i ≤ 1000000 then .ok (seqD tp (intRange i j), y.2) else .stuck
      | _, _ => .stuck)) := by
  have hp := prg_2 (p := p2) (pos := q) hgr hmr ha hb hs hs2 (by rw [hs2]; rfl)
  have go : ∀ (t : TE), (∀ (σ : L2.St) (H : Hp) (Q : VK), (rd G B W fa) σ H (fun x H1 => rd G B W fb σ H1 fun y H2 => ∃ i n, x = V.int i ∧ y = V.int n ∧ RgOk i n ∧ ∀ (q : Addr), H2 q = none → Q (V.ref q) (upd H2 q (if tp = true then HO.tup (rgV i n) else HO.lst (rgV i n)))) → t σ H Q) → ∀ (σ : L2.St) (H : Hp) (Q : VK), rdF G B W (fun ρ τ => (fa ρ τ).bind fun x => (fb ρ x.2).bind fun y => (match x.1, y.1 with
      | .int i, .int j => if bigI i = true ∧ bigI j = true ∧ j - i ≤ 1000000 then .ok (seqD tp (intRange i j), y.2) else .stuck
      | _, _ => .stuck)) σ H Q → t σ H Q := by
    intro t k σ H Q h
    refine k σ H Q ?_
    obtain ⟨Ex, φ, ρ, τ, h⟩ := h
    refine ⟨Ex, φ, ρ, τ, (At.bind h PD.back).mono ?_⟩
    rintro v1 H1 ⟨d1, φ1, τ1, e1, st1, p1, h1⟩
    refine ⟨Ex, φ1, ρ, τ1, (At.bind h1 PD.back).mono ?_⟩
    rintro v2 H2 ⟨d2, φ2, τ2, e2, st2, p2, h2⟩
    cases d1 <;> cases d2 <;> simp only at h2
    case int.int i j =>
      have qq := p1.1
      have qq2 := p2.1
      simp only [Rep] at qq qq2
      subst qq qq2
      split at h2
      · rename_i hcc
        rw [bigI_iff', bigI_iff'] at hcc
        refine ⟨i, j, rfl, rfl, ⟨hcc.1.1, hcc.1.2, hcc.2.1.1, hcc.2.1.2, by omega⟩, fun q nq => ?_⟩
        cases tp with
        | true =>
          simp only [seqD, if_true] at h2 ⊢
          exact At.op h2 (OpPost.newTup rg_rep nq)
        | false =>
          simp only [seqD, Bool.false_eq_true, if_false] at h2 ⊢
          exact At.op h2 (OpPost.newLst h2.1.lv rg_rep nq)
      · exact h2.2.elim
    all_goals exact h2.2.elim
  cases tp with
  | true => exact (pe_tupRg (p := p) (pos := pos) hc hg hm hp (by rfl)).imp (go _ fun σ H Q h => by
      obtain ⟨Ex, φ, ρ, τ, h⟩ := h
      refine ⟨Ex, φ, ρ, τ, h.mono fun v H1 h2 => ?_⟩
      obtain ⟨Ex, φ, ρ, τ, h⟩ := h2
      exact ⟨Ex, φ, ρ, τ, h.mono fun v H1 ⟨i, n, e1, e2, r, k⟩ => ⟨i, n, e1, e2, r, fun q nq => by simpa using k q nq⟩⟩)
  | false => exact (pe_listRg (p := p) (pos := pos) hc hg hm hp (by rfl)).imp (go _ fun σ H Q h => by
      obtain ⟨Ex, φ, ρ, τ, h⟩ := h
      refine ⟨Ex, φ, ρ, τ, h.mono fun v H1 h2 => ?_⟩
      obtain ⟨Ex, φ, ρ, τ, h⟩ := h2
      exact ⟨Ex, φ, ρ, τ, h.mono fun v H1 ⟨i, n, e1, e2, r, k⟩ => ⟨i, n, e1, e2, r, fun q nq => by simpa using k q nq⟩⟩)
end
end M
set_option Elab.async false
set_option linter.all false
set_option maxRecDepth 100000
set_option maxHeartbeats 4000000
/-! What is walked; comprehensions. -/
namespace M
open PySem PySem.Spec PyProof.Rows L2
/-- as Step, but things in Z may change -/
structure StepZ (Z : Addr → Prop) (φ : List Addr) (τ : Store) (H : Hp) (φ' : List Addr) (τ' : Store) (H' : Hp) : Prop where
  pre : ∃ ψ, φ' = φ ++ ψ
  keep : ∀ a o, H a = some o → ¬ live φ τ a → ¬ Z a → H' a = some o
  dom : ∀ a, H a ≠ none → H' a ≠ none
  new : ∀ a, live φ' τ' a → live φ τ a ∨ H a = none
theorem Step.z {Z : Addr → Prop} {φ φ' : List Addr} {τ τ' : Store} {H H' : Hp} (t : Step φ τ H φ' τ' H') : StepZ Z φ τ H φ' τ' H' := ⟨t.pre, fun a o h n _ => t.keep a o h n, t.dom, t.new⟩
theorem StepZ.get {Z : Addr → Prop} {φ φ' : List Addr} {τ τ' : Store} {H H' : Hp} (s : StepZ Z φ τ H φ' τ' H') {n : Nat} {a : Addr} (h : φ[n]? = some a) : φ'[n]? = some a := by
  obtain ⟨ψ, e⟩ := s.pre
  obtain ⟨hn, he⟩ := List.getElem?_eq_some_iff.mp h
  rw [e, List.getElem?_append_left hn, h]
/-- Z: lists that others hold -/
def ZOk (Ex Z : Addr → Prop) (H : Hp) : Prop := ∀ a, Z a → Ex a ∧ ∃ vs, H a = some (.lst vs)
theorem ZOk.tup {Ex Z : Addr → Prop} {H : Hp} (hz : ZOk Ex Z H) {a : Addr} {vs : List V} (h : Rd H a (.tup vs)) : ¬ Z a := fun z => by
  obtain ⟨_, ws, e⟩ := hz a z
  rcases h with h | ⟨o, h⟩ <;> rw [e] at h <;> cases h
theorem ZOk.none {Ex : Addr → Prop} {H : Hp} : ZOk Ex (fun _ => False) H := fun _ z => z.elim
/-- J walks the data xs while the cell w stays -/
def WalkD (G : Gx) (Ex : Addr → Prop) (J : It) (xs : List D) (w : Option Nat) (φ : List Addr) (τ : Store) (H : Hp) : Prop :=
  xs.length ≤ sizeLine ∧ ∀ Z Ex2 φ2 τ2 H2, ZOk Ex Z H → (∀ a, Ex a → Ex2 a) → (∀ a, Ex2 a → Ex a ∨ H a = none) → SR G Ex2 φ2 τ2 H2 → StepZ Z φ τ H φ2 τ2 H2 → same τ τ2 w →
    (∀ i d, xs[i]? = some d → J.go i H2 ∧ ∀ x H3, J.yld i H2 x H3 → Grow H2 H3 ∧ Rep G (Lv φ2 τ2 Ex2) φ2 H3 d x) ∧ J.stop xs.length H2
def PWk (G : Gx) : Pst (List D × Option Nat) It := fun Ex _ φ' τ' H' q J => WalkD G Ex J q.1 q.2 φ' τ' H'
theorem PWk.back {G : Gx} : ∀ {Ex H H1 φ' τ' H' d v}, (∀ a, H a ≠ none → H1 a ≠ none) → PWk G Ex H1 φ' τ' H' d v → PWk G Ex H φ' τ' H' d v := fun _ h => h
abbrev rdI (G : Gx) (B : Store) (W : WX) (f : Env → Store → Out ((List D × Option Nat) × Store)) : TI := tG G B W (PWk G) f
section
variable {X : Cx} {G : Gx} {B : Store} {W : WX} {a b : Expr} {fa fb : Env → Store → Out (D × Store)} {pos p : Pos} {tg : Expr}
variable {Ex Ex2 : Addr → Prop} {φ φ2 : List Addr} {ρ : Env} {τ τ2 : Store} {σ : L2.St} {H H2 : Hp}
theorem StepZ.gen3Ex {Z : Addr → Prop} (s : SR G Ex φ τ H) (hz : ZOk Ex Z H) (t : StepZ Z φ τ H φ2 τ2 H2) (hx : ∀ a, Ex2 a → Ex a ∨ H a = none) :
    (∀ a vs, Rd H a (.tup vs) → Rd H2 a (.tup vs)) ∧ (∀ a vs, ¬ Lv φ τ Ex a → Rd H a (.lst vs) → ¬ Lv φ2 τ2 Ex2 a ∧ Rd H2 a (.lst vs)) ∧ (∀ (n : Nat) (a : Addr), φ[n]? = some a → φ2[n]? = some a) := by
  refine ⟨fun a vs h => Rd.step h fun o e => t.keep a o e (s.notTup h) (hz.tup h), fun a vs hn h => ⟨?_, Rd.step h fun o e => t.keep a o e (fun z => hn (.inl z)) fun z => hn (.inr (hz a z).1)⟩, fun n a h => t.get h⟩
  rintro (z | z)
  · rcases t.new a z with z | z
    · exact hn (.inl z)
    · exact absurd z (Rd.ne h)
  · rcases hx a z with z | z
    · exact hn (.inr z)
    · exact Rd.ne h z
theorem RepL.stepEx {Z : Addr → Prop} (s : SR G Ex φ τ H) (hz : ZOk Ex Z H) (t : StepZ Z φ τ H φ2 τ2 H2) (hx : ∀ a, Ex2 a → Ex a ∨ H a = none) {ds : List D} {vs : List V} (h : RepL G (Lv φ τ Ex) φ H ds vs) : RepL G (Lv φ2 τ2 Ex2) φ2 H2 ds vs :=
  let ⟨a, b, c⟩ := StepZ.gen3Ex s hz t hx
  RepL.gen a b c ds vs h
theorem Rep.stepEx {Z : Addr → Prop} (s : SR G Ex φ τ H) (hz : ZOk Ex Z H) (t : StepZ Z φ τ H φ2 τ2 H2) (hx : ∀ a, Ex2 a → Ex a ∨ H a = none) {d : D} {v : V} (h : Rep G (Lv φ τ Ex) φ H d v) : Rep G (Lv φ2 τ2 Ex2) φ2 H2 d v :=
  let ⟨a, b, c⟩ := StepZ.gen3Ex s hz t hx
  Rep.gen a b c d v h
theorem pi_overD (hG : G.K = X.K) (ha : PE X a (rd G B W fa)) : PI X tg a (rdI G B W fun ρ τ => (fa ρ τ).bind fun x => (ofO (items (hd x.2 x.1))).bind fun xs => .ok ((xs, watch x.1), x.2)) := by
  refine ⟨fun pins s σ H R I h => ?_⟩
  obtain ⟨Ex, φ, ρ, τ, h⟩ := h
  refine thn (ha.run pins s σ H _ I ⟨Ex, φ, ρ, τ, At.bind h PWk.back⟩) fun v s1 ⟨x, H1, I1, r1, q1⟩ => ?_
  obtain ⟨d, φ1, τ1, e1, st1, p1, h1⟩ := q1
  have hv := h1.1.sr.hd p1.1
  cases eh : hd τ1 d with
  | tup xs =>
    rw [eh] at hv
    simp only [eh, items, ofO_some, Out.bind_ok] at h1
    simp only [Val, Rep] at hv
    obtain ⟨l, vs, rfl, hq, rl⟩ := hv
    cases r1
    have hq' := hq
    rw [hG] at hq'
    obtain ⟨its, rv, pt, hz⟩ := I1.tuple hq'
    refine wpAny_pyIter_tuple (show s1.heap.IsTuple l its.toArray from pt) ?_
    refine ⟨s1.heap.objs.size, [s1.heap.objs.size], _, _, H1, rfl, I1.kept (t' := s1.toks) fun b o e => Heap.get?_push_of_some _ e, turn_tuple l _, ⟨_, Heap.get?_push_size _ rfl, rfl, rfl⟩, fun b hb => ?_, ?_⟩
    · have e : b = s1.heap.objs.size := by simpa using hb
      subst e
      exact I1.fpOk (Nat.le_refl _) (I1.hok.fresh (Nat.le_refl _))
    · refine h1.done Grow.refl ⟨by rw [rl.length]; exact hz, fun Z Ex2 φ2 τ2 H2 hZ _ hx s2 t2 _ => ?_⟩
      have rl2 := rl.stepEx h1.1.sr hZ t2 hx
      have hq2 : SqT X.K H2 l vs := hG ▸ SqT.step hq fun o r h => t2.keep l o h (h1.1.sr.notTup r) (hZ.tup r)
      refine ⟨fun i d e => ?_, vs, hq2, by rw [rl.length]; exact Nat.le_refl _⟩
      obtain ⟨y, e2, ry⟩ := rl2.get e
      refine ⟨⟨vs, y, hq2, e2⟩, fun x H3 hy => ?_⟩
      obtain ⟨e3, hy⟩ := hy
      rw [e3]
      have := hy vs hq2
      rw [e2] at this
      cases this
      exact ⟨Grow.refl, ry⟩
  | lst xs =>
    rw [eh] at hv
    simp only [eh, items, ofO_some, Out.bind_ok] at h1
    simp only [Val] at hv
    obtain ⟨l, vs, rfl, hq, rl⟩ := hv
    cases r1
    have hq' : SqL X.K H1 l vs := .inl hq
    obtain ⟨its, rv, pt, hz⟩ := I1.list hq'
    refine wpAny_pyIter_list pt.isList ?_
    refine ⟨s1.heap.objs.size, [s1.heap.objs.size], _, _, H1, rfl, I1.kept (t' := s1.toks) fun b o e => Heap.get?_push_of_some _ e, turn_list l _, ⟨_, Heap.get?_push_size _ rfl, rfl, rfl⟩, fun b hb => ?_, ?_⟩
    · have e : b = s1.heap.objs.size := by simpa using hb
      subst e
      exact I1.fpOk (Nat.le_refl _) (I1.hok.fresh (Nat.le_refl _))
    · refine h1.done Grow.refl ⟨by rw [rl.length]; exact hz, fun Z Ex2 φ2 τ2 H2 hZ _ hx s2 t2 hsame => ?_⟩
      -- the list as it stands then
      have now : ∃ ws, Rd H2 l (.lst ws) ∧ RepL G (Lv φ2 τ2 Ex2) φ2 H2 xs ws := by
        cases d with
        | ref n =>
          have p0 := p1.1
          simp only [Rep] at p0
          obtain ⟨l', hl', el⟩ := p0
          cases el
          have hn : τ1[n]? = some (some xs) := by
            have : hd τ1 (.ref n) = .lst xs := eh
            cases q : τ1[n]? with
            | none => rw [show hd τ1 (.ref n) = .ref n by simp only [hd, q]] at this; cases this
            | some c =>
              cases c with
              | none => rw [show hd τ1 (.ref n) = .ref n by simp only [hd, q]] at this; cases this
              | some ys => rw [show hd τ1 (.ref n) = .lst ys by simp only [hd, q]] at this; cases this; rfl
          have hn2 : τ2[n]? = some (some xs) := by
            have : τ2[n]? = τ1[n]? := hsame
            rw [this]; exact hn
          obtain ⟨ws, e2, r2⟩ := s2.cell n xs l hn2 (t2.get hl')
          exact ⟨ws, .inl e2, r2⟩
        | lst ys =>
          have : ys = xs := by
            have : hd τ1 (.lst ys) = .lst xs := eh
            simpa only [hd, D.lst.injEq] using this
          subst this
          have p0 := p1.1
          simp only [Rep] at p0
          obtain ⟨l', vs', el, nl, rd', rl'⟩ := p0
          cases el
          exact ⟨vs', Rd.step rd' fun o h => t2.keep l o h (fun z => nl (.inl z)) fun z => nl (.inr (hZ l z).1), rl'.stepEx h1.1.sr hZ t2 hx⟩
        | _ => cases eh
      obtain ⟨ws, hq2, rl2⟩ := now
      have hq3 : SqL X.K H2 l ws := .inl hq2
      refine ⟨fun i d e => ?_, ws, hq3, by rw [rl2.length]; exact Nat.le_refl _⟩
      obtain ⟨y, e2, ry⟩ := rl2.get e
      refine ⟨⟨ws, y, hq3, e2⟩, fun x H3 hy => ?_⟩
      obtain ⟨e3, hy⟩ := hy
      rw [e3]
      have := hy ws hq3
      rw [e2] at this
      cases this
      exact ⟨Grow.refl, ry⟩
  | non => simp only [eh, items] at h1; exact h1.2.elim
  | bl => simp only [eh, items] at h1; exact h1.2.elim
  | int => simp only [eh, items] at h1; exact h1.2.elim
  | str => simp only [eh, items] at h1; exact h1.2.elim
  | ref => simp only [eh, items] at h1; exact h1.2.elim
  | fn => simp only [eh, items] at h1; exact h1.2.elim
theorem intRange_get {lo hi : Int} {i : Nat} {d : D} (h : (intRange lo hi)[i]? = some d) : i < (hi - lo).toNat ∧ d = .int (lo + (i : Int)) := by
  unfold intRange at h
  rw [List.getElem?_map] at h
  obtain ⟨j, hj, e⟩ := Option.map_eq_some_iff.mp h
  obtain ⟨h1, h2⟩ := List.getElem?_eq_some_iff.mp hj
  simp at h1 h2
  subst h2
  exact ⟨by omega, e.symm⟩
theorem intRange_length (lo hi : Int) : (intRange lo hi).length = (hi - lo).toNat := by simp [intRange]
theorem range_walk {lo hi : Int} (hz : hi - lo ≤ 1000000) : WalkD G Ex (Itr lo (hi - lo).toNat) (intRange lo hi) none φ τ H := by
  have := line_big
  refine ⟨by rw [intRange_length]; omega, fun Z Ex2 φ2 τ2 H2 _ _ _ _ _ _ => ⟨fun i d e => ?_, by rw [intRange_length]; exact Nat.le_refl _⟩⟩
  obtain ⟨h1, rfl⟩ := intRange_get e
  refine ⟨h1, fun x H3 hy => ?_⟩
  obtain ⟨rfl, rfl⟩ := hy
  exact ⟨Grow.refl, by simp only [Rep]⟩
theorem bigI_iff {i : Int} : bigI i = true ↔ (-(2 ^ 62) ≤ i ∧ i < 2 ^ 62) := by
  unfold bigI; simp only [Bool.and_eq_true, decide_eq_true_eq]
theorem pi_range1D (ha : PE X a (rd G B W fa)) (hg : Gl X "range") (hm : X.mg "range" = none) (hs : starEach [a] X.env = (false, eval a X.env) :: starEach [] X.env) :
    PI X tg (.Call (.Name "range" p) [a] [] pos) (rdI G B W fun ρ τ => (fa ρ τ).bind fun x => (match x.1 with
    | .int j => if bigI j = true ∧ j ≤ 1000000 then .ok ((intRange 0 j, none), x.2) else .stuck
    | _ => .stuck)) := by
  have hp := pi_range1 (tg := tg) (p := p) (pos := pos) hg hm (pa_cons ha pa_nil hs) hs
  refine ⟨fun pins s σ H R I h => hp.run pins s σ H R I ?_⟩
  obtain ⟨Ex, φ, ρ, τ, h⟩ := h
  refine ⟨Ex, φ, ρ, τ, (At.bind h PWk.back).mono ?_⟩
  rintro v1 H1 ⟨d1, φ1, τ1, e1, st1, p1, h1⟩
  cases d1 <;> simp only at h1
  case int j =>
    have q := p1.1
    simp only [Rep] at q
    subst q
    split at h1
    · rename_i hc
      rw [bigI_iff] at hc
      refine ⟨j, rfl, hc.1.1, hc.1.2, ?_⟩
      have := h1.done (v := Itr 0 (j - 0).toNat) Grow.refl (range_walk (by omega))
      rwa [Int.sub_zero] at this
    · exact h1.2.elim
  all_goals exact h1.2.elim
theorem pi_range2D (ha : PE X a (rd G B W fa)) (hb : PE X b (rd G B W fb)) (hg : Gl X "range") (hm : X.mg "range" = none) (hs : starEach [a, b] X.env = (false, eval a X.env) :: starEach [b] X.env) (hs2 : starEach [b] X.env = (false, eval b X.env) :: starEach [] X.env) :
    PI X tg (.Call (.Name "range" p) [a, b] [] pos) (rdI G B W fun ρ τ => (fa ρ τ).bind fun x => (fb ρ x.2).bind fun y => (match x.1, y.1 with
    | .int i, .int j => if bigI i = true ∧ bigI j = true ∧ j - i ≤ 1000000 then .ok ((intRange i j, none), y.2) else .stuck
    | _, _ => .stuck)) := by
  have hp := pi_range2 (tg := tg) (p := p) (pos := pos) hg hm (pa_cons ha (pa_cons hb pa_nil hs2) hs) (by rw [hs, hs2]; rfl) hs2
  refine ⟨fun pins s σ H R I h => hp.run pins s σ H R I ?_⟩
  obtain ⟨Ex, φ, ρ, τ, h⟩ := h
  refine ⟨Ex, φ, ρ, τ, (At.bind h PWk.back).mono ?_⟩
  rintro v1 H1 ⟨d1, φ1, τ1, e1, st1, p1, h1⟩
  refine ⟨Ex, φ1, ρ, τ1, (At.bind h1 PWk.back).mono ?_⟩
  rintro v2 H2 ⟨d2, φ2, τ2, e2, st2, p2, h2⟩
  cases d1 <;> cases d2 <;> simp only at h2
  case int.int i j =>
    have q := p1.1
    have q2 := p2.1
    simp only [Rep] at q q2
    subst q q2
    split at h2
    · rename_i hc
      rw [bigI_iff, bigI_iff] at hc
      exact ⟨i, j, rfl, ⟨hc.1.1, hc.1.2, hc.2.1.1, hc.2.1.2⟩, h2.done Grow.refl (range_walk hc.2.2)⟩
    · exact h2.2.elim
  all_goals exact h2.2.elim
/-! ### targets -/
def gNames : List Nat → TGs
  | [] => gNil
  | i :: r => gCons (gName i) (gNames r)
def tgtG (K : PySem.W.Frag) : MTgt → TG
  | .n i => gName i
  | .t is => gTup K is.length (gNames is)
theorem ER.set {L : Addr → Prop} {i : Nat} {d : D} {v : V} (e : ER G L φ H ρ σ) (r : Rep G L φ H d v) : ER G L φ H (ρ.set i (some d)) (σ.set i (some v)) := by
  refine ⟨by rw [List.length_set, List.length_set]; exact e.len, fun j d' h => ?_⟩
  by_cases hj : i = j
  · subst hj
    by_cases hi : i < ρ.length
    · rw [List.getElem?_set_self hi] at h
      cases h
      exact ⟨v, List.getElem?_set_self (by rw [← e.len]; exact hi), r⟩
    · rw [List.getElem?_eq_none (by rw [List.length_set]; omega)] at h; cases h
  · rw [List.getElem?_set_ne hj] at h
    obtain ⟨w, e1, r1⟩ := e.val j d' h
    exact ⟨w, by rw [List.getElem?_set_ne hj]; exact e1, r1⟩
theorem ER.del {L : Addr → Prop} {i : Nat} (e : ER G L φ H ρ σ) : ER G L φ H (ρ.set i none) (σ.set i none) := by
  refine ⟨by rw [List.length_set, List.length_set]; exact e.len, fun j d' h => ?_⟩
  by_cases hj : i = j
  · subst hj
    by_cases hi : i < ρ.length
    · rw [List.getElem?_set_self hi] at h; cases h
    · rw [List.getElem?_eq_none (by rw [List.length_set]; omega)] at h; cases h
  · rw [List.getElem?_set_ne hj] at h
    obtain ⟨w, e1, r1⟩ := e.val j d' h
    exact ⟨w, by rw [List.getElem?_set_ne hj]; exact e1, r1⟩
theorem ER.wipe {L : Addr → Prop} (e : ER G L φ H ρ σ) : ∀ vs : List Nat, ER G L φ H (wipeE ρ vs) (L2.wipe σ vs)
  | [] => e
  | v :: vs => (ER.wipe e vs).del
/-- the slots a target stores -/
def tgtIs : MTgt → List Nat
  | .n i => [i]
  | .t is => is
theorem tgt_names {L : Addr → Prop} {Q : L2.St → Hp → Prop} : ∀ (is : List Nat) (xs : List D) (vs : List V) (ρ : Env) (σ : L2.St), is.length = xs.length → ER G L φ H ρ σ → RepL G L φ H xs vs →
    (∀ σ1, ER G L φ H ((is.zip xs).foldl (fun ρ p => ρ.set p.1 (some p.2)) ρ) σ1 → (∀ ws, (∀ i ∈ is, i ∈ ws) → L2.wipe σ1 ws = L2.wipe σ ws) → Q σ1 H) → gNames is vs σ H Q
  | [], [], _, ρ, σ, _, e, r, h => by
    simp only [RepL] at r
    exact ⟨r, h σ e fun _ _ => rfl⟩
  | i :: is, x :: xs, _, ρ, σ, hl, e, r, h => by
    simp only [RepL] at r
    obtain ⟨v, vs, rfl, r1, r2⟩ := r
    refine ⟨v, vs, rfl, ?_⟩
    show gNames is vs (σ.set i (some v)) H Q
    refine tgt_names is xs vs (ρ.set i (some x)) (σ.set i (some v)) (by simpa using hl) (e.set r1) r2 fun σ1 e1 hw => h σ1 e1 fun ws hi => ?_
    rw [hw ws fun j hj => hi j (List.mem_cons_of_mem _ hj)]
    exact wipe_set (hi i List.mem_cons_self)
  | [], _ :: _, _, _, _, hl, _, _, _ => by simp at hl
  | _ :: _, [], _, _, _, hl, _, _, _ => by simp at hl
where
  wipe_set {i : Nat} {v : Option V} {σ : L2.St} : ∀ {ws : List Nat}, i ∈ ws → L2.wipe (σ.set i v) ws = L2.wipe σ ws
    | [], h => by simp at h
    | w :: ws, h => by
      unfold L2.wipe
      by_cases hw : i ∈ ws
      · rw [wipe_set hw]
      · have : i = w := by
          rcases List.mem_cons.mp h with h | h
          · exact h
          · exact absurd h hw
        subst this
        rw [wipe_comm hw, List.set_set]
  wipe_comm {i : Nat} {v : Option V} {σ : L2.St} : ∀ {ws : List Nat}, i ∉ ws → L2.wipe (σ.set i v) ws = (L2.wipe σ ws).set i v
    | [], _ => rfl
    | w :: ws, h => by
      unfold L2.wipe
      simp only [List.mem_cons, not_or] at h
      rw [wipe_comm h.2, List.set_comm _ _ h.1]
theorem tgt_ok (hG : G.K = X.K) {L : Addr → Prop} {tg : MTgt} {d : D} {v : V} {ρ1 : Env} {Q : L2.St → Hp → Prop} (e : ER G L φ H ρ σ) (r : Rep G L φ H d v) (hs : setTgt ρ tg d = some ρ1)
    (h : ∀ σ1, ER G L φ H ρ1 σ1 → (∀ ws, (∀ i ∈ tgtIs tg, i ∈ ws) → L2.wipe σ1 ws = L2.wipe σ ws) → Q σ1 H) : tgtG X.K tg v σ H Q := by
  cases tg with
  | n i =>
    simp only [setTgt, Option.some.injEq] at hs
    subst hs
    exact h _ (e.set r) fun ws hi => tgt_names.wipe_set (hi i (by simp [tgtIs]))
  | t is =>
    cases d <;> simp only [setTgt] at hs
    case tup xs =>
      split at hs
      · rename_i hl
        cases hs
        simp only [Rep] at r
        obtain ⟨a, vs, rfl, h1, r1⟩ := r
        rw [hG] at h1
        refine ⟨a, vs, rfl, h1, by rw [← r1.length]; exact hl, ?_⟩
        exact tgt_names is xs vs ρ σ hl.symm e r1 h
      · cases hs
    all_goals cases hs
end
end M
set_option Elab.async false
set_option linter.all false
set_option maxRecDepth 100000
set_option maxHeartbeats 4000000
namespace M
open PySem PySem.Spec PyProof.Rows L2
theorem meets_enumT (l : Addr) (items : Array Value) :
  Meets (Builtin.«enumerate.__new__» { pos := [Value.type "enumerate", Value.ref l] }) fun x R s =>
    s.heap.IsTuple l items ∧
      R (Except.ok (Flow.ret (Value.ref (s.heap.push { cls := Value.type "tuple_iterator", data := Data.fields #[Value.ref l, Value.int 0 0] }).objs.size)))
        { heap := (s.heap.push { cls := Value.type "tuple_iterator", data := Data.fields #[Value.ref l, Value.int 0 0] }).push
              { cls := Value.type "enumerate",
                data := Data.fields #[Value.none, Value.bool false, Value.ref s.heap.objs.size, rawInt 0, Value.none, Value.none] },
          gens := s.gens, drawn := s.drawn, toks := s.toks, os := s.os } :=
  .of_wp fun prog w A R s h => by
    obtain ⟨hp, g, d, tk, os⟩ := s
    obtain ⟨hl, h⟩ := h
    have hi : ∀ {A : Around} {E : Value → Shared → Prop} {Q : Value → Shared → Prop}, Q (Value.ref hp.objs.size) { heap := hp.push { cls := Value.type "tuple_iterator", data := Data.fields #[Value.ref l, Value.int 0 0] }, gens := g, drawn := d, toks := tk, os := os } → wpAny (model prog w) A (pyIter (.ref l)) Q E { heap := hp, gens := g, drawn := d, toks := tk, os := os } := fun {A E Q} q => (begins_tuple l items).iter prog w A E { heap := hp, gens := g, drawn := d, toks := tk, os := os } Q hl q
    have f1 := sub_enumerate
    wp_walk using hi
    have pure_any : ∀ {α : Type} {x : α} {A : Around} {Q : α → Shared → Prop} {E : Value → Shared → Prop} {s : Shared}, (∀ a, Q a s) → wpAny (model prog w) A (pure x) Q E s := fun h => wpAny_pure (h _)
    refine wpAny_stack_any fun st => pure_any fun bb => ?_
    cases bb
    · show wpAny _ _ (pyIter (.ref l) >>= _) _ _ _
      refine wpAny_bind (hi ?_)
      wp_walk
      exact ⟨_, rfl, h⟩
    · show wpAny _ _ (pyIter (.ref l) >>= _) _ _ _
      refine wpAny_bind (hi ?_)
      wp_walk
      exact ⟨_, rfl, h⟩
theorem call_enumT {prog : Program} {w : World} {A : Around} {E : Value → Shared → Prop} {s : Shared} {l : Addr} {items : Array Value} {Q : Value → Shared → Prop} (ht : s.heap.IsTuple l items)
    (h : ∀ h' : Heap, IsEnum h' (s.heap.objs.size + 1) s.heap.objs.size 0 Value.none → h'.IsTupleIter s.heap.objs.size l 0 → (∀ b o, s.heap.get? b = some o → h'.get? b = some o) → Q (.ref (s.heap.objs.size + 1)) { heap := h', gens := s.gens, drawn := s.drawn, toks := s.toks, os := s.os }) :
    wpAny (model prog w) A (PySem.call (.type "enumerate") [.ref l]) Q E s := by
  refine callType_new F.called_enumerate (by decide) (F.typeCall_enumerate_1 (.ref l)) (F.newCall_enumerate_1 (.ref l)) (fun obj => F.args_object_init_2 obj (.ref l)) F.entry_enumerate_new (meets_enumT l items) ⟨ht, ?_⟩
  have hz := Heap.size_push s.heap { cls := Value.type "tuple_iterator", data := Data.fields #[Value.ref l, Value.int 0 0] }
  have hE : ((s.heap.push { cls := Value.type "tuple_iterator", data := Data.fields #[Value.ref l, Value.int 0 0] }).push { cls := Value.type "enumerate", data := Data.fields #[Value.none, Value.bool false, Value.ref s.heap.objs.size, rawInt 0, Value.none, Value.none] }).get? (s.heap.objs.size + 1) = some { cls := Value.type "enumerate", data := Data.fields #[Value.none, Value.bool false, Value.ref s.heap.objs.size, rawInt 0, Value.none, Value.none] } := by
    rw [← hz]
    exact Heap.get?_push_size _ rfl
  show _ ∧ _
  rw [hz]
  refine ⟨⟨_, hE, rfl⟩, h _ hE ?_ fun b o hb => Heap.get?_push_of_some _ (Heap.get?_push_of_some _ hb)⟩
  exact ⟨_, Heap.get?_push_of_some _ (Heap.get?_push_size _ rfl), rfl, rfl⟩
theorem relV_inj {x y : V} {u : Value} (h : RelV x u) (k : RelV y u) : x = y := by
  cases x <;> cases y <;> simp only [L2.RelV] at h k <;> first
    | (subst h; cases k <;> rfl; done)
    | (subst h; obtain ⟨t, e⟩ := k; cases e; done)
    | (obtain ⟨t, rfl⟩ := h; obtain ⟨t', e⟩ := k; cases e <;> rfl; done)
    | (obtain ⟨t, rfl⟩ := h; cases k; done)
theorem vals_inj : ∀ {xs ys : List V} {us : List Value}, Vals xs us → Vals ys us → xs = ys
  | _, _, [], .nil, .nil => rfl
  | _, _, _ :: _, .cons h h2, .cons k k2 => by rw [relV_inj h k, vals_inj h2 k2]
theorem sqT_det {X : Cx} {pins : List (Addr × Obj)} {σ : L2.St} {H : Hp} {s : Shared} {a : Addr} {xs ys : List V} (I : Inv X pins σ H s) (h : SqT X.K H a xs) (k : SqT X.K H a ys) : xs = ys := by
  obtain ⟨its, rv, ⟨o, e1, _, n, e2⟩, _⟩ := I.tuple h
  obtain ⟨its2, rv2, ⟨o2, e3, _, n2, e4⟩, _⟩ := I.tuple k
  rw [e1] at e3
  cases e3
  rw [e2] at e4
  injection e4 with z
  have : its = its2 := by simpa using z
  subst this
  exact vals_inj rv rv2
/-- enumerate over a tuple -/
def IteT (K : PySem.W.Frag) (a : Addr) : It where
  go := fun i H => ∃ xs x, SqT K H a xs ∧ xs[i]? = some x
  yld := fun i H v H' => ∃ T x, v = V.ref T ∧ H T = none ∧ H' = upd H T (HO.tup [V.int i, x]) ∧ ∀ xs, SqT K H a xs → xs[i]? = some x
  stop := fun i H => ∃ xs, SqT K H a xs ∧ xs.length = i
theorem turn_enumT {P : Program} {w : World} {K : PySem.W.Frag} {elts : List Expr} {kk : Nat} {tpos : Pos} (a e it : Addr) :
    Turn P w K (.Tuple elts kk tpos) (IteT K a) [e, it] e fun i h => (∃ old, IsEnum h e it i old) ∧ h.IsTupleIter it a i ∧ e ≠ it where
  mem := by simp
  obj := fun i h st b hb => by
    obtain ⟨⟨old, h1⟩, ⟨o, h2, _, h4⟩, _⟩ := st
    rcases List.mem_cons.mp hb with rfl | hb
    · exact ⟨_, h1, fun v z => nomatch z⟩
    · rcases List.mem_cons.mp hb with rfl | hb
      · exact ⟨o, h2, fun v z => by rw [h4] at z; cases z⟩
      · cases hb
  keep := fun i h h' st k => by
    obtain ⟨⟨old, h1⟩, h2, h3⟩ := st
    exact ⟨⟨old, k e (by simp) _ h1⟩, Heap.IsTupleIter.at h2 fun o ho => k it (by simp) o ho, h3⟩
  item := fun X hP hw hK hc i pins s σ H E I hf st hg => by
    subst hP hw hK
    obtain ⟨⟨old, h1⟩, h2, h3⟩ := st
    obtain ⟨xs, x, hq, hx⟩ := hg
    obtain ⟨its, rv, pt, hz⟩ := I.tuple hq
    obtain ⟨u, hu, ru⟩ := Vals.get rv hx
    have pt' : s.heap.IsTuple a its.toArray := pt
    have ha : a ≠ it := fun z => by
      subst z
      obtain ⟨o, e1, e2, _⟩ := h2
      obtain ⟨o', e3, e4, _⟩ := pt'
      rw [e1] at e3
      cases e3
      rw [e2] at e4
      injection e4 with z
      exact absurd z (by decide)
    have hea : e ≠ a := fun z => by
      subst z
      obtain ⟨o', e3, e4, _⟩ := pt'
      rw [h1] at e3
      cases e3
      injection e4 with z
      exact absurd z (by decide)
    have hi : i < its.toArray.size := by
      have := (List.getElem?_eq_some_iff.mp hu).1
      simpa using this
    have dr := Draws.tuple (prog := X.prog) (w := X.w) (A := X.A.in1) (I.ok.hd hc) it a ha its.toArray
    refine wpAny_pyNext_enum_itemD dr h1 ⟨h2, pt'⟩ hi h3 (by simp [h3, hea]) fun y h' tk hy ho hst hT hsz hk => ?_
    refine ⟨_, rfl, wpAny_letOwnedTupleGo_enum ho fun h'' he' sb => ?_⟩
    have hy' : y = u := by
      simp at hy
      rw [hu] at hy
      exact (Option.some.inj hy).symm
    subst hy'
    have hlt : e < s.heap.objs.size := Heap.lt_size h1
    have hlt2 : it < s.heap.objs.size := by obtain ⟨o, e1, _⟩ := h2; exact Heap.lt_size e1
    have hT2 := (sb.2 s.heap.objs.size (Nat.ne_of_gt hlt)).trans hT
    have new : ObjOk X.prog X.w (upd H s.heap.objs.size (.tup [.int i, x])) h'' s.heap.objs.size (.tup [.int i, x]) :=
      ⟨by show (2 : Nat) ≤ sizeLine; have := line_big; omega, [Value.int i tk, y], .cons ⟨tk, rfl⟩ (.cons ru .nil), _, hT2, rfl, 0, rfl⟩
    have I1 := I.turnedNew (h' := h'') (t' := tk + 1) (ch := [e, it]) (fun b ob hb q => by
      have hb1 : b ≠ e := fun z => hb (by simp [z])
      have hb2 : b ≠ it := fun z => hb (by simp [z])
      exact (sb.2 b hb1).trans (hk b ob hb1 hb2 q)) hf (Nat.le_refl _) new
    refine ⟨.ref s.heap.objs.size, _, I1, rfl, ⟨s.heap.objs.size, x, rfl, I.hok.fresh (Nat.le_refl _), rfl, fun ys hy => ?_⟩, ⟨⟨_, he'⟩, Heap.IsTupleIter.at hst.1 fun o ho => ?_, h3⟩, fun b hb => ?_⟩
    · rw [sqT_det I hy hq]; exact hx
    · rw [sb.2 it (Ne.symm h3)]; exact ho
    · have hne : b ≠ s.heap.objs.size := by
        rcases List.mem_cons.mp hb with rfl | hb
        · exact Nat.ne_of_lt hlt
        · rcases List.mem_cons.mp hb with rfl | hb
          · exact Nat.ne_of_lt hlt2
          · cases hb
      rw [upd_ne hne]; exact (hf b hb).1
  done := fun X hP hw hK hc i pins s σ H E I hf st hg => by
    subst hP hw hK
    obtain ⟨⟨old, h1⟩, h2, h3⟩ := st
    obtain ⟨xs, hq, hx⟩ := hg
    obtain ⟨its, rv, pt, hz⟩ := I.tuple hq
    have pt' : s.heap.IsTuple a its.toArray := pt
    have ha : a ≠ it := fun z => by
      subst z
      obtain ⟨o, e1, e2, _⟩ := h2
      obtain ⟨o', e3, e4, _⟩ := pt'
      rw [e1] at e3
      cases e3
      rw [e2] at e4
      injection e4 with z
      exact absurd z (by decide)
    have hl := rv.length
    have he : i = its.toArray.size := by rw [List.size_toArray]; omega
    · have dr := Draws.tuple (prog := X.prog) (w := X.w) (A := X.A.in1) (I.ok.hd hc) it a ha its.toArray
      rw [he] at h1 h2
      refine wpAny_pyNext_enum_endD dr h1 ⟨h2, pt'⟩ fun h' hx => ⟨rfl, ?_⟩
      obtain ⟨f0, f1, f2, f3, f4, f5⟩ := hf it (by simp)
      exact I.turned (t' := s.toks) hx f0 f1 f3 f4 f5
  self := fun A i s Q E st q => by
    obtain ⟨⟨old, h1⟩, _, _⟩ := st
    exact wpAny_pyIter_enum h1 q
section
variable {X : Cx} {G : Gx} {B : Store} {W : WX} {a : Expr} {fa : Env → Store → Out (D × Store)} {pos p tpos : Pos} {elts : List Expr} {kk : Nat}
def iEnumA (K : PySem.W.Frag) (ta : TE) : TI := fun σ H R => ta σ H fun v H1 => ∃ l xs, v = .ref l ∧ ((SqL K H1 l xs ∧ (xs.length ≤ sizeLine → R (Ite K l) H1)) ∨ (SqT K H1 l xs ∧ (xs.length ≤ sizeLine → R (IteT K l) H1)))
theorem pi_enumA {ta : TE} (hg : Gl X "enumerate") (hm : X.mg "enumerate" = none) (ha : PE X a ta) (hs : starEach [a] X.env = (false, eval a X.env) :: starEach [] X.env) :
    PI X (.Tuple elts kk tpos) (.Call (.Name "enumerate" p) [a] [] pos) (iEnumA X.K ta) := by
  refine ⟨fun pins s σ H R I h => ?_⟩
  refine Call_ (ld_blt I hg hm (u := .type "enumerate") (by decide +kernel) (PyProof.Rows.callWith_type1 (args_cons (thn (ha.run pins s σ H _ I h) ?_) hs) hs (by rfl)) (by decide) (by decide)) (by rfl)
  rintro v s1 ⟨x, H1, I1, r1, l, xs, rfl, q⟩
  cases r1
  refine args_nil ?_
  rcases q with ⟨hq, hR⟩ | ⟨hq, hR⟩
  · obtain ⟨its, rv, pl, hz⟩ := I1.list hq
    refine call_enumerate_list pl.isList fun h' e1 e2 e3 hk => wpAny_pyIter_enum e1 ?_
    have ne : s1.heap.objs.size + 1 ≠ s1.heap.objs.size := by omega
    refine ⟨s1.heap.objs.size + 1, [s1.heap.objs.size + 1, s1.heap.objs.size], _, _, H1, rfl, I1.kept (t' := s1.toks) hk, turn_enum l (s1.heap.objs.size + 1) s1.heap.objs.size, ⟨⟨_, e1⟩, e2, ne⟩, fun b hb => ?_, hR hz⟩
    have hb' : s1.heap.objs.size ≤ b := by
      rcases List.mem_cons.mp hb with rfl | hb
      · exact Nat.le_succ _
      · rcases List.mem_cons.mp hb with rfl | hb
        · exact Nat.le_refl _
        · cases hb
    exact I1.fpOk hb' (I1.hok.fresh hb')
  · obtain ⟨its, rv, pt, hz⟩ := I1.tuple hq
    refine call_enumT (items := its.toArray) pt fun h' e1 e2 hk => wpAny_pyIter_enum e1 ?_
    have ne : s1.heap.objs.size + 1 ≠ s1.heap.objs.size := by omega
    refine ⟨s1.heap.objs.size + 1, [s1.heap.objs.size + 1, s1.heap.objs.size], _, _, H1, rfl, I1.kept (t' := s1.toks) hk, turn_enumT l (s1.heap.objs.size + 1) s1.heap.objs.size, ⟨⟨_, e1⟩, e2, ne⟩, fun b hb => ?_, hR hz⟩
    have hb' : s1.heap.objs.size ≤ b := by
      rcases List.mem_cons.mp hb with rfl | hb
      · exact Nat.le_succ _
      · rcases List.mem_cons.mp hb with rfl | hb
        · exact Nat.le_refl _
        · cases hb
    exact I1.fpOk hb' (I1.hok.fresh hb')
end
end M
set_option Elab.async false
set_option linter.all false
set_option maxRecDepth 100000
set_option maxHeartbeats 4000000
/-! enumerate, zip, a range with a step as data. -/
namespace M
open PySem PySem.Spec PyProof.Rows L2
theorem enumD_get : ∀ {xs : List D} {k i : Nat} {d : D}, (enumD k xs)[i]? = some d → ∃ x, xs[i]? = some x ∧ d = .tup [.int ((k + i : Nat) : Int), x]
  | [], _, _, _, h => by simp [enumD] at h
  | x :: xs, k, 0, d, h => by
    simp only [enumD, List.getElem?_cons_zero, Option.some.injEq] at h
    exact ⟨x, rfl, h.symm⟩
  | x :: xs, k, i + 1, d, h => by
    simp only [enumD, List.getElem?_cons_succ] at h
    obtain ⟨y, e, r⟩ := enumD_get h
    exact ⟨y, by simpa using e, by rw [r]; congr 2; congr 1; omega⟩
theorem enumD_length : ∀ (xs : List D) (k : Nat), (enumD k xs).length = xs.length
  | [], _ => rfl
  | x :: xs, k => by simp only [enumD, List.length_cons, enumD_length xs (k + 1)]
section
variable {X : Cx} {G : Gx} {B : Store} {W : WX} {a b c : Expr} {fa fb fc : Env → Store → Out (D × Store)} {pos p tpos : Pos} {tg : Expr} {elts : List Expr} {kk : Nat}
variable {Ex Ex2 : Addr → Prop} {φ φ2 : List Addr} {ρ : Env} {τ τ2 : Store} {σ : L2.St} {H H2 : Hp}
/-- the list as it stands at a later time -/
theorem list_later {Z : Addr → Prop} {d : D} {xs : List D} {l : Addr} (s1 : SR G Ex φ τ H) (p1 : Rep G (Lv φ τ Ex) φ H d (.ref l)) (eh : hd τ d = .lst xs) (hZ : ZOk Ex Z H) (hx : ∀ a, Ex2 a → Ex a ∨ H a = none) (s2 : SR G Ex2 φ2 τ2 H2) (t2 : StepZ Z φ τ H φ2 τ2 H2) (hsame : same τ τ2 (watch d)) :
    ∃ ws, Rd H2 l (.lst ws) ∧ RepL G (Lv φ2 τ2 Ex2) φ2 H2 xs ws := by
  cases d with
  | ref n =>
    simp only [Rep] at p1
    obtain ⟨l', hl', el⟩ := p1
    cases el
    have hn : τ[n]? = some (some xs) := by
      have : hd τ (.ref n) = .lst xs := eh
      cases q : τ[n]? with
      | none => rw [show hd τ (.ref n) = .ref n by simp only [hd, q]] at this; cases this
      | some c =>
        cases c with
        | none => rw [show hd τ (.ref n) = .ref n by simp only [hd, q]] at this; cases this
        | some ys => rw [show hd τ (.ref n) = .lst ys by simp only [hd, q]] at this; cases this; rfl
    have hn2 : τ2[n]? = some (some xs) := by
      have : τ2[n]? = τ[n]? := hsame
      rw [this]; exact hn
    obtain ⟨ws, e2, r2⟩ := s2.cell n xs l hn2 (t2.get hl')
    exact ⟨ws, .inl e2, r2⟩
  | lst ys =>
    have : ys = xs := by
      have : hd τ (.lst ys) = .lst xs := eh
      simpa only [hd, D.lst.injEq] using this
    subst this
    simp only [Rep] at p1
    obtain ⟨l', vs', el, nl, rd', rl'⟩ := p1
    cases el
    exact ⟨vs', Rd.step rd' fun o h => t2.keep l o h (fun z => nl (.inl z)) fun z => nl (.inr (hZ l z).1), rl'.stepEx s1 hZ t2 hx⟩
  | _ => cases eh
theorem Val.ofRep {L : Addr → Prop} {d : D} {v : V} (h : Rep G L φ H d v) : Val G L φ H d v := by
  cases d with
  | lst xs =>
    simp only [Rep] at h
    obtain ⟨l, vs, rfl, _, r, rl⟩ := h
    exact ⟨l, vs, rfl, r, rl⟩
  | _ => exact h
theorem rep_pair {L : Addr → Prop} {T : Addr} {x y : D} {v u : V} (n : H T = none) (h1 : Rep G L φ H x v) (h2 : Rep G L φ H y u) : Rep G L φ (upd H T (.tup [v, u])) (.tup [x, y]) (.ref T) := by
  simp only [Rep, RepL]
  exact ⟨T, [v, u], rfl, SqT.of upd_same, v, [u], rfl, h1.grow (Grow.upd n), u, [], rfl, h2.grow (Grow.upd n), rfl⟩
theorem pi_enumD (hG : G.K = X.K) (hg : Gl X "enumerate") (hm : X.mg "enumerate" = none) (ha : PE X a (rd G B W fa)) (hs : starEach [a] X.env = (false, eval a X.env) :: starEach [] X.env) :
    PI X (.Tuple elts kk tpos) (.Call (.Name "enumerate" p) [a] [] pos) (rdI G B W fun ρ τ => (fa ρ τ).bind fun x => (ofO (items (hd x.2 x.1))).bind fun xs => .ok ((enumD 0 xs, watch x.1), x.2)) := by
  have hp := pi_enumA (elts := elts) (kk := kk) (tpos := tpos) (p := p) (pos := pos) hg hm ha hs
  refine ⟨fun pins s σ H R I h => hp.run pins s σ H R I ?_⟩
  obtain ⟨Ex, φ, ρ, τ, h⟩ := h
  refine ⟨Ex, φ, ρ, τ, (At.bind h PWk.back).mono ?_⟩
  rintro v1 H1 ⟨d, φ1, τ1, e1, st1, p1, h1⟩
  have hv := h1.1.sr.hd p1.1
  cases eh : hd τ1 d with
  | tup xs =>
    rw [eh] at hv
    simp only [eh, items, ofO_some, Out.bind_ok] at h1
    simp only [Val, Rep] at hv
    obtain ⟨l, vs, rfl, hq, rl⟩ := hv
    refine ⟨l, vs, rfl, .inr ⟨hG ▸ hq, fun hz => ?_⟩⟩
    refine h1.done Grow.refl ⟨?_, fun Z Ex2 φ2 τ2 H2 hZ _ hx s2 t2 _ => ?_⟩
    · show (enumD 0 xs).length ≤ sizeLine; rw [enumD_length, rl.length]; exact hz
    · have rl2 := rl.stepEx h1.1.sr hZ t2 hx
      have hq2 : SqT X.K H2 l vs := hG ▸ SqT.step hq fun o r h => t2.keep l o h (h1.1.sr.notTup r) (hZ.tup r)
      refine ⟨fun i d e => ?_, vs, hq2, by rw [enumD_length, rl.length]⟩
      obtain ⟨y, ey, rfl⟩ := enumD_get e
      obtain ⟨u, e2, ry⟩ := rl2.get ey
      refine ⟨⟨vs, u, hq2, e2⟩, fun x H3 hy => ?_⟩
      obtain ⟨T, x', rfl, nT, rfl, hy⟩ := hy
      have := hy vs hq2
      rw [e2] at this
      cases this
      exact ⟨Grow.upd nT, by
        have := rep_pair (G := G) (x := .int i) (v := .int i) nT (by simp only [Rep]) ry
        simpa using this⟩
  | lst xs =>
    rw [eh] at hv
    simp only [eh, items, ofO_some, Out.bind_ok] at h1
    simp only [Val] at hv
    obtain ⟨l, vs, rfl, hq, rl⟩ := hv
    refine ⟨l, vs, rfl, .inl ⟨.inl hq, fun hz => ?_⟩⟩
    refine h1.done Grow.refl ⟨?_, fun Z Ex2 φ2 τ2 H2 hZ _ hx s2 t2 hsame => ?_⟩
    · show (enumD 0 xs).length ≤ sizeLine; rw [enumD_length, rl.length]; exact hz
    · obtain ⟨ws, hq2, rl2⟩ := list_later h1.1.sr p1.1 eh hZ hx s2 t2 hsame
      have hq3 : SqL X.K H2 l ws := .inl hq2
      refine ⟨fun i d e => ?_, ws, hq3, by rw [enumD_length, rl2.length]; exact Nat.le_refl _⟩
      obtain ⟨y, ey, rfl⟩ := enumD_get e
      obtain ⟨u, e2, ry⟩ := rl2.get ey
      refine ⟨⟨ws, u, hq3, e2⟩, fun x H3 hy => ?_⟩
      obtain ⟨T, x', rfl, nT, rfl, hy⟩ := hy
      have := hy ws hq3
      rw [e2] at this
      cases this
      exact ⟨Grow.upd nT, by
        have := rep_pair (G := G) (x := .int i) (v := .int i) nT (by simp only [Rep]) ry
        simpa using this⟩
  | _ => simp only [eh, items] at h1; exact h1.2.elim
theorem zipD_get {xs ys : List D} {i : Nat} {d : D} (h : (zipD xs ys)[i]? = some d) : ∃ x y, xs[i]? = some x ∧ ys[i]? = some y ∧ d = .tup [x, y] := by
  unfold zipD at h
  rw [List.getElem?_map] at h
  obtain ⟨⟨x, y⟩, e, rfl⟩ := Option.map_eq_some_iff.mp h
  obtain ⟨e1, e2⟩ := List.getElem?_zip_eq_some.mp e
  exact ⟨x, y, e1, e2, rfl⟩
theorem zipD_length (xs ys : List D) : (zipD xs ys).length = min xs.length ys.length := by simp [zipD]
theorem pi_zipD (hG : G.K = X.K) (hg : Gl X "zip") (hm : X.mg "zip" = none) (ha : PE X a (rd G B W fa)) (hb : PE X b (rd G B W fb)) (hs : starEach [a, b] X.env = (false, eval a X.env) :: starEach [b] X.env) (hs2 : starEach [b] X.env = (false, eval b X.env) :: starEach [] X.env) :
    PI X (.Tuple elts kk tpos) (.Call (.Name "zip" p) [a, b] [] pos) (rdI G B W fun ρ τ => (fa ρ τ).bind fun x => (fb ρ x.2).bind fun y => (ofO (zipF x.1 y.1)).bind fun zs => .ok ((zs, none), y.2)) := by
  have hp := RZ.pi_zipA (elts := elts) (kk := kk) (tpos := tpos) (p := p) (pos := pos) hg hm (pa_cons ha (pa_cons hb pa_nil hs2) hs) (by rw [hs]) (by rw [hs2]; rfl)
  refine ⟨fun pins s σ H R I h => hp.run pins s σ H R I ?_⟩
  obtain ⟨Ex, φ, ρ, τ, h⟩ := h
  refine ⟨Ex, φ, ρ, τ, (At.bind h PWk.back).mono ?_⟩
  rintro v1 H1 ⟨d1, φ1, τ1, e1, st1, p1, h1⟩
  refine ⟨Ex, φ1, ρ, τ1, (At.bind h1 PWk.back).mono ?_⟩
  rintro v2 H2 ⟨d2, φ2, τ2, e2, st2, p2, h2⟩
  have r1 := p1.1.step h1.1.sr st2
  have r2 := p2.1
  cases d1 <;> cases d2 <;> simp only [zipF, ofO_none, Out.bind_stuck] at h2
  case tup.tup xs ys =>
    split at h2
    · rename_i hz
      simp only [ofO_some, Out.bind_ok] at h2
      simp only [Rep] at r1 r2
      obtain ⟨l, vs, rfl, hq, rl⟩ := r1
      obtain ⟨l2, vs2, rfl, hq2, rl2⟩ := r2
      refine ⟨l, l2, vs, vs2, rfl, .inr ⟨hG ▸ hq, hG ▸ hq2, ?_⟩⟩
      refine h2.done Grow.refl ⟨?_, fun Z Ex3 φ3 τ3 H3 hZ _ hx s3 t3 _ => ?_⟩
      · show (zipD xs ys).length ≤ sizeLine
        rw [zipD_length]; have := line_big; omega
      · have rl' := rl.stepEx h2.1.sr hZ t3 hx
        have rl2' := rl2.stepEx h2.1.sr hZ t3 hx
        have hq' : SqT X.K H3 l vs := hG ▸ SqT.step hq fun o r h => t3.keep l o h (h2.1.sr.notTup r) (hZ.tup r)
        have hq2' : SqT X.K H3 l2 vs2 := hG ▸ SqT.step hq2 fun o r h => t3.keep l2 o h (h2.1.sr.notTup r) (hZ.tup r)
        refine ⟨fun i d e => ?_, vs, vs2, hq', hq2', by rw [← rl.length, ← rl2.length, zipD_length]; omega⟩
        obtain ⟨x, y, ex, ey, rfl⟩ := zipD_get e
        obtain ⟨u, eu, ru⟩ := rl'.get ex
        obtain ⟨u2, eu2, ru2⟩ := rl2'.get ey
        refine ⟨⟨vs, vs2, u, u2, hq', hq2', eu, eu2⟩, fun z H4 hy => ?_⟩
        obtain ⟨T, x', y', rfl, nT, rfl, hy1, hy2⟩ := hy
        have g1 := hy1 vs hq'
        have g2 := hy2 vs2 hq2'
        rw [eu] at g1
        rw [eu2] at g2
        cases g1
        cases g2
        exact ⟨Grow.upd nT, rep_pair nT ru ru2⟩
    · exact h2.2.elim
  case lst.lst xs ys =>
    split at h2
    · rename_i hz
      simp only [ofO_some, Out.bind_ok] at h2
      simp only [Rep] at r1 r2
      obtain ⟨l, vs, rfl, nl, hq, rl⟩ := r1
      obtain ⟨l2, vs2, rfl, nl2, hq2, rl2⟩ := r2
      refine ⟨l, l2, vs, vs2, rfl, .inl ⟨.inl hq, .inl hq2, ?_⟩⟩
      refine h2.done Grow.refl ⟨?_, fun Z Ex3 φ3 τ3 H3 hZ _ hx s3 t3 _ => ?_⟩
      · show (zipD xs ys).length ≤ sizeLine
        rw [zipD_length]; have := line_big; omega
      · have rl' := rl.stepEx h2.1.sr hZ t3 hx
        have rl2' := rl2.stepEx h2.1.sr hZ t3 hx
        have hq' : SqL X.K H3 l vs := .inl (Rd.step hq fun o h => t3.keep l o h (fun z => nl (.inl z)) fun z => nl (.inr (hZ l z).1))
        have hq2' : SqL X.K H3 l2 vs2 := .inl (Rd.step hq2 fun o h => t3.keep l2 o h (fun z => nl2 (.inl z)) fun z => nl2 (.inr (hZ l2 z).1))
        refine ⟨fun i d e => ?_, vs, vs2, hq', hq2', by rw [← rl.length, ← rl2.length, zipD_length]; omega⟩
        obtain ⟨x, y, ex, ey, rfl⟩ := zipD_get e
        obtain ⟨u, eu, ru⟩ := rl'.get ex
        obtain ⟨u2, eu2, ru2⟩ := rl2'.get ey
        refine ⟨⟨vs, vs2, u, u2, hq', hq2', eu, eu2⟩, fun z H4 hy => ?_⟩
        obtain ⟨T, x', y', rfl, nT, rfl, hy1, hy2⟩ := hy
        have g1 := hy1 vs hq'
        have g2 := hy2 vs2 hq2'
        rw [eu] at g1
        rw [eu2] at g2
        cases g1
        cases g2
        exact ⟨Grow.upd nT, rep_pair nT ru ru2⟩
    · exact h2.2.elim
  all_goals exact h2.2.elim
theorem intRange3_get {lo hi c : Int} {i : Nat} {d : D} (h : (intRange3 lo hi c)[i]? = some d) : i < (Builtin.Range.rangeSize lo hi c).toNat ∧ d = .int (lo + (i : Int) * c) := by
  unfold intRange3 at h
  rw [List.getElem?_map] at h
  obtain ⟨j, hj, e⟩ := Option.map_eq_some_iff.mp h
  obtain ⟨h1, h2⟩ := List.getElem?_eq_some_iff.mp hj
  simp at h1 h2
  subst h2
  exact ⟨by omega, e.symm⟩
theorem pi_range3D (ha : PE X a (rd G B W fa)) (hb : PE X b (rd G B W fb)) (hc : PE X c (rd G B W fc)) (hg : Gl X "range") (hm : X.mg "range" = none) (hs : starEach [a, b, c] X.env = (false, eval a X.env) :: starEach [b, c] X.env) (hs2 : starEach [b, c] X.env = (false, eval b X.env) :: starEach [c] X.env) (hs3 : starEach [c] X.env = (false, eval c X.env) :: starEach [] X.env) :
    PI X tg (.Call (.Name "range" p) [a, b, c] [] pos) (rdI G B W fun ρ τ => (fa ρ τ).bind fun x => (fb ρ x.2).bind fun y => (fc ρ y.2).bind fun z => (match x.1, y.1, z.1 with
      | .int i, .int j, .int c => if rg3 i j c = true then .ok ((intRange3 i j c, none), z.2) else .stuck
      | _, _, _ => .stuck)) := by
  have hp := pi_range3 (tg := tg) (p := p) (pos := pos) hg hm (pa_cons ha (pa_cons hb (pa_cons hc pa_nil hs3) hs2) hs) hs (by rw [hs2, hs3]; rfl)
  refine ⟨fun pins s σ H R I h => hp.run pins s σ H R I ?_⟩
  obtain ⟨Ex, φ, ρ, τ, h⟩ := h
  refine ⟨Ex, φ, ρ, τ, (At.bind h PWk.back).mono ?_⟩
  rintro v1 H1 ⟨d1, φ1, τ1, e1, st1, p1, h1⟩
  refine ⟨Ex, φ1, ρ, τ1, (At.bind h1 PWk.back).mono ?_⟩
  rintro v2 H2 ⟨d2, φ2, τ2, e2, st2, p2, h2⟩
  refine ⟨Ex, φ2, ρ, τ2, (At.bind h2 PWk.back).mono ?_⟩
  rintro v3 H3 ⟨d3, φ3, τ3, e3, st3, p3, h3⟩
  cases d1 <;> cases d2 <;> cases d3 <;> simp only at h3
  case int.int.int i j c =>
    have q := p1.1
    have q2 := p2.1
    have q3 := p3.1
    simp only [Rep] at q q2 q3
    subst q q2 q3
    split at h3
    · rename_i hcc
      unfold rg3 at hcc
      simp only [Bool.and_eq_true, decide_eq_true_eq] at hcc
      obtain ⟨⟨⟨⟨c1, c2⟩, c3⟩, c4⟩, c5⟩ := hcc
      refine ⟨i, j, c, (Builtin.Range.rangeSize i j c).toNat, rfl, ⟨c1, c2, c3, by omega⟩, h3.done Grow.refl ⟨?_, fun Z Ex2 φ2 τ2 H2 _ _ _ _ _ _ => ⟨fun k d e => ?_, ?_⟩⟩⟩
      · show (intRange3 i j c).length ≤ sizeLine
        have := line_big
        simp only [intRange3, List.length_map, List.length_range]; omega
      · obtain ⟨g1, rfl⟩ := intRange3_get e
        refine ⟨g1, fun x H3 hy => ?_⟩
        obtain ⟨rfl, rfl⟩ := hy
        exact ⟨Grow.refl, by simp only [Rep]⟩
      · show (Builtin.Range.rangeSize i j c).toNat ≤ (intRange3 i j c).length
        simp only [intRange3, List.length_map, List.length_range]; exact Nat.le_refl _
    · exact h3.2.elim
  all_goals exact h3.2.elim
end
end M
set_option Elab.async false
set_option linter.all false
set_option maxRecDepth 100000
set_option maxHeartbeats 4000000
/-! Comprehensions of one clause. -/
namespace M
open PySem PySem.Spec PyProof.Rows L2
section
variable {X : Cx} {G : Gx} {B : Store} {W : WX} {pos p : Pos} {tg : Expr}
variable {Ex Ex2 : Addr → Prop} {φ φ2 : List Addr} {ρ : Env} {τ τ2 : Store} {σ : L2.St} {H H2 : Hp}
theorem lv_mono {a : Addr} : ∀ x, Lv φ τ Ex x → Lv φ τ (add1 Ex a) x := fun x h => lv_add1.mpr (.inl h)
theorem SR.unadd {a : Addr} (s : SR G (add1 Ex a) φ τ H) : SR G Ex φ τ H :=
  ⟨s.len, s.nd, fun n xs b h1 h2 => let ⟨vs, e, r⟩ := s.cell n xs b h1 h2; ⟨vs, e, r.weak lv_mono⟩, s.dom, fun b h => s.ex b (.inl h)⟩
theorem ER.weak {L L' : Addr → Prop} (k : ∀ a, L' a → L a) (e : ER G L φ H ρ σ) : ER G L' φ H ρ σ :=
  ⟨e.len, fun i d h => let ⟨v, e1, r⟩ := e.val i d h; ⟨v, e1, r.weak k⟩⟩
theorem ER.grow {L : Addr → Prop} (g : Grow H H2) (e : ER G L φ H ρ σ) : ER G L φ H2 ρ σ :=
  ⟨e.len, fun i d h => let ⟨v, e1, r⟩ := e.val i d h; ⟨v, e1, r.grow g⟩⟩
theorem R.unadd {a : Addr} (r : R G B (add1 Ex a) φ ρ τ σ H) : R G B Ex φ ρ τ σ H := ⟨r.sr.unadd, r.er.weak lv_mono, r.low, r.bs⟩
theorem R.add {a : Addr} {o : HO} (n : H a = none) (r : R G B Ex φ ρ τ σ H) : R G B (add1 Ex a) φ ρ τ σ (upd H a o) :=
  ⟨r.sr.add n, ⟨r.er.len, fun i d h => let ⟨v, e1, q⟩ := r.er.val i d h; ⟨v, e1, (Rep.add n (Grow.upd n) q).weak fun c h => lv_add1.mp h⟩⟩, r.low, r.bs⟩
/-- another's list is written -/
theorem SR.updEx {l : Addr} {vs ws : List V} (hl : Ex l) (e : H l = some (.lst vs)) (s : SR G Ex φ τ H) : SR G Ex φ τ (upd H l (.lst ws)) := by
  have dm : ∀ x, H x ≠ none → upd H l (.lst ws) x ≠ none := fun x h => by
    by_cases z : x = l
    · subst z; rw [upd_same]; simp
    · rw [upd_ne z]; exact h
  refine ⟨s.len, s.nd, fun n xs b h1 h2 => ?_, fun i x h => dm x (s.dom i x h), fun x h => ⟨dm x (s.ex x h).1, (s.ex x h).2⟩⟩
  obtain ⟨us, e1, r⟩ := s.cell n xs b h1 h2
  have : b ≠ l := fun z => (s.ex l hl).2 n (z ▸ h2)
  exact ⟨us, by rw [upd_ne this]; exact e1, RepL.upd (.inr hl) e r⟩
theorem ER.updEx {l : Addr} {vs ws : List V} (hl : Ex l) (e : H l = some (.lst vs)) (r : ER G (Lv φ τ Ex) φ H ρ σ) : ER G (Lv φ τ Ex) φ (upd H l (.lst ws)) ρ σ :=
  ⟨r.len, fun i d h => let ⟨v, e1, q⟩ := r.val i d h; ⟨v, e1, Rep.upd (.inr hl) e q⟩⟩
theorem wipe_idem {σ : L2.St} : ∀ vs : List Nat, L2.wipe (L2.wipe σ vs) vs = L2.wipe σ vs := by
  have key : ∀ (us vs : List Nat), (∀ i ∈ us, i ∈ vs) → L2.wipe (L2.wipe σ us) vs = L2.wipe σ vs := by
    intro us
    induction us with
    | nil => intro vs _; rfl
    | cons u us ih =>
      intro vs h
      show L2.wipe ((L2.wipe σ us).set u none) vs = _
      rw [tgt_names.wipe_set (h u List.mem_cons_self)]
      exact ih vs fun i hi => h i (List.mem_cons_of_mem _ hi)
  exact fun vs => key vs vs fun _ h => h
def noX : WX := fun _ _ _ _ => False
theorem same_trans {τ τ1 τ2 : Store} {w : Option Nat} (h : same τ τ1 w) (k : same τ1 τ2 w) : same τ τ2 w := by
  cases w with
  | none => trivial
  | some n => exact Eq.trans k h
theorem same_refl {τ : Store} {w : Option Nat} : same τ τ w := by
  cases w with
  | none => trivial
  | some n => rfl
theorem lcLoop_cons {w : Option Nat} {g : D → Store → Out (Option D × Store)} {x : D} {xs : List D} {τ τf : Store} {ds : List D} (h : lcLoop w g (x :: xs) τ = .ok (ds, τf)) :
    ∃ o τ1 q, g x τ = .ok (o, τ1) ∧ same τ τ1 w ∧ lcLoop w g xs τ1 = .ok (q, τf) ∧ ds = (match o with | some d => d :: q | none => q) := by
  unfold lcLoop at h
  cases e : g x τ with
  | stuck => rw [e] at h; cases h
  | exc => rw [e] at h; cases h
  | ok r =>
    obtain ⟨o, τ1⟩ := r
    simp only [e, Out.bind_ok] at h
    split at h
    · rename_i hs
      cases e2 : lcLoop w g xs τ1 with
      | stuck => rw [e2] at h; cases h
      | exc => rw [e2] at h; cases h
      | ok r2 =>
        obtain ⟨q, τ2⟩ := r2
        simp only [e2, Out.bind_ok, Out.ok.injEq, Prod.mk.injEq] at h
        obtain ⟨h1, h2⟩ := h
        subst h2
        exact ⟨o, τ1, q, rfl, hs, e2, h1.symm⟩
    · cases h
theorem lcTurn_ok {ρ : Env} {mt : MTgt} {c : Env → Store → Out (Bool × Store)} {e : Env → Store → Out (D × Store)} {d : D} {τ τ1 : Store} {o : Option D} (h : lcTurn ρ mt c e d τ = .ok (o, τ1)) :
    ∃ ρ1 k τk, setTgt ρ mt d = some ρ1 ∧ c ρ1 τ = .ok (k, τk) ∧ ((k = true ∧ ∃ y, e ρ1 τk = .ok (y, τ1) ∧ o = some y) ∨ (k = false ∧ o = none ∧ τ1 = τk)) := by
  unfold lcTurn at h
  cases e1 : setTgt ρ mt d with
  | none => rw [e1] at h; cases h
  | some ρ1 =>
    simp only [e1, ofO_some, Out.bind_ok] at h
    cases e2 : c ρ1 τ with
    | stuck => rw [e2] at h; cases h
    | exc => rw [e2] at h; cases h
    | ok r =>
      obtain ⟨k, τk⟩ := r
      simp only [e2, Out.bind_ok] at h
      refine ⟨ρ1, k, τk, rfl, e2, ?_⟩
      cases k with
      | false =>
        simp only [Bool.false_eq_true, if_false, Out.ok.injEq, Prod.mk.injEq] at h
        exact .inr ⟨rfl, h.1.symm, h.2.symm⟩
      | true =>
        simp only [if_true] at h
        cases e3 : e ρ1 τk with
        | stuck => rw [e3] at h; cases h
        | exc => rw [e3] at h; cases h
        | ok r =>
          obtain ⟨y, τ2⟩ := r
          simp only [e3, Out.bind_ok, Out.ok.injEq, Prod.mk.injEq] at h
          obtain ⟨h1, h2⟩ := h
          subst h2
          exact .inl ⟨rfl, y, rfl, h1.symm⟩
/-- what holds between two turns -/
structure LcI (G : Gx) (B : Store) (Ex : Addr → Prop) (w : Option Nat) (g : D → Store → Out (Option D × Store)) (xs ds : List D) (τf : Store) (φ1 : List Addr) (τ1 : Store) (H1 : Hp) (ρ : Env) (σ : L2.St) (D0 : Addr) (i m : Nat) (H : Hp) : Prop where
  me : m = xs.length - i
  le : i ≤ xs.length
  go : ∃ φ2 τ2 out acc rest, H D0 = some (.lst acc) ∧ acc.length ≤ i ∧ R G B (add1 Ex D0) φ2 ρ τ2 σ H ∧ Step φ1 τ1 H1 φ2 τ2 H ∧ RepL G (Lv φ2 τ2 (add1 Ex D0)) φ2 H out acc ∧ same τ1 τ2 w ∧ lcLoop w g (xs.drop i) τ2 = .ok (rest, τf) ∧ ds = out ++ rest
theorem Step.updNew {l : Addr} {ws : List V} {φ1 : List Addr} {τ1 : Store} {H1 : Hp} (st : Step φ1 τ1 H1 φ2 τ2 H2) (n : H1 l = none) : Step φ1 τ1 H1 φ2 τ2 (upd H2 l (.lst ws)) :=
  ⟨st.pre, fun a o h nl => by rw [upd_ne (fun z : a = l => by rw [z, n] at h; cases h)]; exact st.keep a o h nl, fun a h => by
    by_cases z : a = l
    · rw [z, n] at h; exact absurd rfl h
    · rw [upd_ne z]; exact st.dom a h, st.new⟩
theorem pe_lcD {elt iter : Expr} {ifs : List Expr} {scope : Scope} {own : List (Str × Nat)} {mt : MTgt} {fI : Env → Store → Out ((List D × Option Nat) × Store)} {fc : Env → Store → Out (Bool × Store)} {fe : Env → Store → Out (D × Store)}
    (hG : G.K = X.K) (hc : X.calm = true) (hN : X.N.Nodup) (hi : PI X tg iter (rdI G B W fI)) (ok : BlkOk X.N X.env.scope scope own) (htg : ∀ i ∈ tgtIs mt, i ∈ own.map (·.2))
    (hg : ∀ (s : Shared) (H : Hp) (C : Addr) (cl : List (Str × Addr)) (fp : List Addr), PG (X.blk s H scope (compEnvC scope cl C X.env) fp) tg (tgtG X.K mt))
    (ht : ∀ (s : Shared) (H : Hp) (C : Addr) (cl : List (Str × Addr)) (fp : List Addr), PTs (X.blk s H scope (compEnvC scope cl C X.env) fp) ifs (rdT G B noX fc))
    (he : ∀ (s : Shared) (H : Hp) (C : Addr) (cl : List (Str × Addr)) (fp : List Addr), PE (X.blk s H scope (compEnvC scope cl C X.env) fp) elt (rd G B noX fe)) :
    ∀ σ H Q, rdF G B W (fun ρ τ => (fI ρ τ).bind fun s => lcOut s.1.2 (fun d τ1 => lcTurn (wipeE ρ (own.map (·.2))) mt fc fe d τ1) s.1.1 s.2) σ H Q →
      tLc (rdI G B W fI) (tgtG X.K mt) (rdT G B noX fc) (rd G B noX fe) (own.map (·.2)) σ H Q := by
  rintro σ H Q ⟨Ex, φ, ρ, τ, h⟩
  refine ⟨Ex, φ, ρ, τ, (At.bind h PD.back).mono ?_⟩
  rintro J H1 ⟨⟨xs, w⟩, φ1, τ1, e1, st1, wk, h1⟩
  simp only at h1
  have wk : WalkD G Ex J xs w φ1 τ1 H1 := wk
  intro D0 hD
  unfold lcOut at h1
  generalize hgd : (fun (d : D) (τ1 : Store) => lcTurn (wipeE ρ (own.map (·.2))) mt fc fe d τ1) = g at h1
  cases eL : lcLoop w g xs τ1 with
  | stuck => simp only [eL] at h1; exact h1.2.elim
  | exc => simp only [eL] at h1; exact h1.2.elim
  | ok r =>
  obtain ⟨ds, τf⟩ := r
  simp only [eL] at h1
  refine ⟨LcI G B Ex w g xs ds τf φ1 τ1 H1 ρ σ D0, ⟨xs.length, by simp, Nat.zero_le _, φ1, τ1, [], [], ds, upd_same, Nat.le_refl _, h1.1.add hD, Step.grow (Grow.upd hD), by simp only [RepL], same_refl, by simpa using eL, rfl⟩, ?_⟩
  rintro i m H3 ⟨rfl, hle, φ2, τ2, out, acc, rest, hD2, hacc, R2, st2, rl, hsame, eL2, rfl⟩
  obtain ⟨wk1, wk2⟩ := wk.2 (fun _ => False) (add1 Ex D0) φ2 τ2 H3 ZOk.none (fun a h => .inl h) (fun a h => by rcases h with h | h; exact .inl h; subst h; exact .inr hD) R2.sr st2.z hsame
  by_cases hlt : i < xs.length
  · refine .inr ?_
    have ed : xs[i]? = some xs[i] := List.getElem?_eq_getElem hlt
    obtain ⟨go, yld⟩ := wk1 i xs[i] ed
    refine ⟨go, LcI G B Ex w g xs (out ++ rest) τf φ1 τ1 H1 ρ σ D0 (i + 1) (xs.length - (i + 1)), fun H' h' => ⟨xs.length - (i + 1), by omega, h'⟩, fun x H4 hy => ?_⟩
    obtain ⟨gr, rx⟩ := yld x H4 hy
    rw [List.drop_eq_getElem_cons hlt] at eL2
    obtain ⟨o, τ3, q, eg, hs3, eL3, rfl⟩ := lcLoop_cons eL2
    rw [← hgd] at eg
    obtain ⟨ρ1, k, τk, es, ec, hk⟩ := lcTurn_ok eg
    have R4 := R2.grow gr
    have nD : ∀ {φ' : List Addr} {τ' : Store} {H' : Hp}, SR G (add1 Ex D0) φ' τ' H' → ¬ live φ' τ' D0 := fun s ⟨n, _, _, z⟩ => (s.ex D0 (.inr rfl)).2 n z
    refine tgt_ok hG (R4.er.wipe _) rx es fun σ1 er1 hw => ⟨by rw [hw _ htg, wipe_idem], add1 Ex D0, φ2, ρ1, τ2, ⟨R4.sr, er1, R4.low, R4.bs⟩, ?_⟩
    rw [ec]
    intro φ5 b H5 st5 R5 hb
    have hb : b = k := hb
    subst hb
    have a5 : H5 D0 = some (.lst acc) := st5.keep D0 _ (gr D0 _ hD2) (nD R4.sr)
    rcases hk with ⟨rfl, y, ey, rfl⟩ | ⟨rfl, rfl, rfl⟩
    · simp only [if_true]
      refine ⟨add1 Ex D0, φ5, ρ1, τk, R5, ?_⟩
      rw [ey]
      intro φ6 v6 H6 st6 R6 p6
      have a6 : H6 D0 = some (.lst acc) := st6.keep D0 _ a5 (nD R5.sr)
      have st46 := st5.trans st6
      have st16 : Step φ1 τ1 H1 φ6 τ3 H6 := (st2.trans (Step.grow gr)).trans st46
      have er6 := R4.er.step R4.sr st46
      have rl6 := (rl.grow gr).step R4.sr st46
      have hbig := wk.1
      refine ⟨acc, a6, by omega, rfl, by omega, φ6, τ3, out ++ [y], acc ++ [v6], q, upd_same, by rw [List.length_append]; simp; omega, ⟨SR.updEx (.inr rfl) a6 R6.sr, ER.updEx (.inr rfl) a6 er6, R6.low, R6.bs⟩, Step.updNew st16 hD, RepL.upd (.inr (.inr rfl)) a6 (rl6.append (RepL.one p6.1)), same_trans hsame hs3, eL3, by simp⟩
    · simp only [Bool.false_eq_true, if_false]
      have er5 := R4.er.step R4.sr st5
      have rl5 := (rl.grow gr).step R4.sr st5
      exact ⟨rfl, by omega, φ5, τ3, out, acc, q, a5, by omega, ⟨R5.sr, er5, R5.low, R5.bs⟩, (st2.trans (Step.grow gr)).trans st5, rl5, same_trans hsame hs3, eL3, rfl⟩
  · have hi' : i = xs.length := by omega
    subst hi'
    refine .inl ⟨wk2, ?_⟩
    rw [List.drop_length] at eL2
    have e0 : rest = [] ∧ τf = τ2 := by
      unfold lcLoop at eL2
      simp only [Out.ok.injEq, Prod.mk.injEq] at eL2
      exact ⟨eL2.1.symm, eL2.2.symm⟩
    obtain ⟨rfl, rfl⟩ := e0
    rw [List.append_nil] at h1
    refine h1.2 φ2 (.ref D0) H3 st2 R2.unadd ⟨?_, fun _ zs ez => ?_⟩
    · simp only [Rep]
      refine ⟨D0, acc, rfl, fun z => ?_, .inl hD2, rl.weak lv_mono⟩
      rcases z with z | z
      · obtain ⟨n, _, _, z⟩ := z
        exact (R2.sr.ex D0 (.inr rfl)).2 n z
      · exact (h1.1.sr.ex D0 z).1 hD
    · cases ez
      exact ⟨D0, acc, rfl, hD, hD2, R2.sr, rl⟩
end
end M
set_option Elab.async false
set_option linter.all false
set_option maxRecDepth 100000
set_option maxHeartbeats 4000000
/-! Comprehensions of two clauses. -/
namespace M
open PySem PySem.Spec PyProof.Rows L2
section
variable {X : Cx} {G : Gx} {B : Store} {W : WX} {pos p : Pos} {tg tg1 : Expr}
variable {Ex Ex2 : Addr → Prop} {φ φ2 : List Addr} {ρ : Env} {τ τ2 : Store} {σ : L2.St} {H H2 : Hp}
theorem lcLoop2_cons {w : Option Nat} {g : D → Store → Out (List D × Store)} {x : D} {xs : List D} {τ τf : Store} {ds : List D} (h : lcLoop2 w g (x :: xs) τ = .ok (ds, τf)) :
    ∃ o τ1 q, g x τ = .ok (o, τ1) ∧ same τ τ1 w ∧ lcLoop2 w g xs τ1 = .ok (q, τf) ∧ ds = o ++ q := by
  unfold lcLoop2 at h
  cases e : g x τ with
  | stuck => rw [e] at h; cases h
  | exc => rw [e] at h; cases h
  | ok r =>
    obtain ⟨o, τ1⟩ := r
    simp only [e, Out.bind_ok] at h
    split at h
    · rename_i hs
      cases e2 : lcLoop2 w g xs τ1 with
      | stuck => rw [e2] at h; cases h
      | exc => rw [e2] at h; cases h
      | ok r2 =>
        obtain ⟨q, τ2⟩ := r2
        simp only [e2, Out.bind_ok, Out.ok.injEq, Prod.mk.injEq] at h
        obtain ⟨h1, h2⟩ := h
        subst h2
        exact ⟨o, τ1, q, rfl, hs, e2, h1.symm⟩
    · cases h
theorem lcTurn2_ok {ρ : Env} {mt : MTgt} {c : Env → Store → Out (Bool × Store)} {e : Env → Store → Out (List D × Store)} {d : D} {τ τ1 : Store} {o : List D} (h : lcTurn2 ρ mt c e d τ = .ok (o, τ1)) :
    ∃ ρ1 k τk, setTgt ρ mt d = some ρ1 ∧ c ρ1 τ = .ok (k, τk) ∧ ((k = true ∧ e ρ1 τk = .ok (o, τ1)) ∨ (k = false ∧ o = [] ∧ τ1 = τk)) := by
  unfold lcTurn2 at h
  cases e1 : setTgt ρ mt d with
  | none => rw [e1] at h; cases h
  | some ρ1 =>
    simp only [e1, ofO_some, Out.bind_ok] at h
    cases e2 : c ρ1 τ with
    | stuck => rw [e2] at h; cases h
    | exc => rw [e2] at h; cases h
    | ok r =>
      obtain ⟨k, τk⟩ := r
      simp only [e2, Out.bind_ok] at h
      refine ⟨ρ1, k, τk, rfl, e2, ?_⟩
      cases k with
      | false =>
        simp only [Bool.false_eq_true, if_false, Out.ok.injEq, Prod.mk.injEq] at h
        exact .inr ⟨rfl, h.1.symm, h.2.symm⟩
      | true =>
        simp only [if_true] at h
        exact .inl ⟨rfl, h⟩
/-- between two turns of the outer clause -/
structure LcO (G : Gx) (B : Store) (Ex : Addr → Prop) (w : Option Nat) (g : D → Store → Out (List D × Store)) (xs ds : List D) (τf : Store) (φ1 : List Addr) (τ1 : Store) (H1 : Hp) (ρ : Env) (σ : L2.St) (D0 : Addr) (i m : Nat) (H : Hp) : Prop where
  me : m = xs.length - i
  le : i ≤ xs.length
  go : ∃ φ2 τ2 out acc rest, H D0 = some (.lst acc) ∧ R G B (add1 Ex D0) φ2 ρ τ2 σ H ∧ Step φ1 τ1 H1 φ2 τ2 H ∧ RepL G (Lv φ2 τ2 (add1 Ex D0)) φ2 H out acc ∧ same τ1 τ2 w ∧ lcLoop2 w g (xs.drop i) τ2 = .ok (rest, τf) ∧ ds = out ++ rest
/-- between two turns of the inner clause; it began at φa τa Ha; ρ0 σ0: the outer names -/
structure LcN (G : Gx) (B : Store) (Ex : Addr → Prop) (w : Option Nat) (g : D → Store → Out (Option D × Store)) (ys r1 : List D) (τe : Store) (φ1 : List Addr) (τ1 : Store) (H1 : Hp) (φa : List Addr) (τa : Store) (Ha : Hp) (ρ0 : Env) (σ0 : L2.St) (ρ : Env) (σ : L2.St) (D0 : Addr) (out : List D) (j m : Nat) (H : Hp) : Prop where
  me : m = ys.length - j
  le : j ≤ ys.length
  go : ∃ φ2 τ2 o1 acc rest, H D0 = some (.lst acc) ∧ R G B (add1 Ex D0) φ2 ρ τ2 σ H ∧ ER G (Lv φ2 τ2 (add1 Ex D0)) φ2 H ρ0 σ0 ∧ Step φ1 τ1 H1 φ2 τ2 H ∧ StepZ (· = D0) φa τa Ha φ2 τ2 H ∧ RepL G (Lv φ2 τ2 (add1 Ex D0)) φ2 H (out ++ o1) acc ∧ same τa τ2 w ∧ lcLoop w g (ys.drop j) τ2 = .ok (rest, τe) ∧ r1 = o1 ++ rest
/-- a step that may change one list of another's -/
theorem Step.toZ {l : Addr} {φ1 : List Addr} {τ1 : Store} {H1 : Hp} (st : StepZ (· = l) φ τ H φ1 τ1 H1) {φ2 : List Addr} {τ2 : Store} {H2 : Hp} (nl : ¬ live φ1 τ1 l) (t : Step φ1 τ1 H1 φ2 τ2 H2) : StepZ (· = l) φ τ H φ2 τ2 H2 := by
  refine ⟨?_, fun a o h n hz => ?_, fun a h => t.dom a (st.dom a h), fun a h => ?_⟩
  · obtain ⟨ψ, e⟩ := st.pre
    obtain ⟨ψ', e'⟩ := t.pre
    exact ⟨ψ ++ ψ', by rw [e', e, List.append_assoc]⟩
  · refine t.keep a o (st.keep a o h n hz) fun z => ?_
    rcases st.new a z with z | z
    · exact n z
    · rw [h] at z; cases z
  · rcases t.new a h with z | z
    · exact st.new a z
    · by_cases q : H a = none
      · exact .inr q
      · exact absurd z (st.dom a q)
theorem StepZ.put {l : Addr} {ws : List V} (st : StepZ (· = l) φ τ H φ2 τ2 H2) : StepZ (· = l) φ τ H φ2 τ2 (upd H2 l (.lst ws)) := by
  refine ⟨st.pre, fun a o h n hz => ?_, fun a h => ?_, st.new⟩
  · rw [upd_ne hz]; exact st.keep a o h n hz
  · by_cases z : a = l
    · subst z; rw [upd_same]; simp
    · rw [upd_ne z]; exact st.dom a h
theorem pe_lc2D {elt iter iter1 : Expr} {ifs ifs1 : List Expr} {scope : Scope} {own : List (Str × Nat)} {vs1 : List Nat} {mt mt1 : MTgt} {fI fI1 : Env → Store → Out ((List D × Option Nat) × Store)} {fc fc1 : Env → Store → Out (Bool × Store)} {fe : Env → Store → Out (D × Store)}
    (hG : G.K = X.K) (hc : X.calm = true) (hN : X.N.Nodup) (hi : PI X tg iter (rdI G B W fI)) (ok : BlkOk X.N X.env.scope scope own) (htg : ∀ i ∈ tgtIs mt, i ∈ own.map (·.2)) (htg1 : ∀ i ∈ tgtIs mt1, i ∈ vs1) :
    ∀ σ H Q, rdF G B W (fun ρ τ => (fI ρ τ).bind fun s => lcOut2 s.1.2 (fun d τ1 => lcTurn2 (wipeE ρ (own.map (·.2))) mt fc (fun ρ2 τ2 => (fI1 ρ2 τ2).bind fun s1 => lcLoop s1.1.2 (fun d τ3 => lcTurn (wipeE ρ2 vs1) mt1 fc1 fe d τ3) s1.1.1 s1.2) d τ1) s.1.1 s.2) σ H Q →
      tLc2 (rdI G B W fI) (tgtG X.K mt) (rdT G B noX fc) (rdI G B noX fI1) (tgtG X.K mt1) (rdT G B noX fc1) (rd G B noX fe) (own.map (·.2)) vs1 σ H Q := by
  rintro σ H Q ⟨Ex, φ, ρ, τ, h⟩
  refine ⟨Ex, φ, ρ, τ, (At.bind h PD.back).mono ?_⟩
  rintro J H1 ⟨⟨xs, w⟩, φ1, τ1, e1, st1, wk, h1⟩
  simp only at h1
  have wk : WalkD G Ex J xs w φ1 τ1 H1 := wk
  intro D0 hD
  unfold lcOut2 at h1
  generalize hgd : (fun (d : D) (τ1 : Store) => lcTurn2 (wipeE ρ (own.map (·.2))) mt fc (fun ρ2 τ2 => (fI1 ρ2 τ2).bind fun s1 => lcLoop s1.1.2 (fun d τ3 => lcTurn (wipeE ρ2 vs1) mt1 fc1 fe d τ3) s1.1.1 s1.2) d τ1) = g at h1
  cases eL : lcLoop2 w g xs τ1 with
  | stuck => simp only [eL] at h1; exact h1.2.elim
  | exc => simp only [eL] at h1; exact h1.2.elim
  | ok r =>
  obtain ⟨ds, τf⟩ := r
  simp only [eL] at h1
  by_cases hz' : ¬ ds.length ≤ 1000000
  · rw [if_neg hz'] at h1; exact h1.2.elim
  have hz : ds.length ≤ 1000000 := Decidable.not_not.mp hz'
  rw [if_pos hz] at h1
  have hbig := line_big
  refine ⟨LcO G B Ex w g xs ds τf φ1 τ1 H1 ρ σ D0, ⟨xs.length, by simp, Nat.zero_le _, φ1, τ1, [], [], ds, upd_same, h1.1.add hD, Step.grow (Grow.upd hD), by simp only [RepL], same_refl, by simpa using eL, rfl⟩, ?_⟩
  rintro i m H3 ⟨rfl, hle, φ2, τ2, out, acc, rest, hD2, R2, st2, rl, hsame, eL2, rfl⟩
  obtain ⟨wk1, wk2⟩ := wk.2 (fun _ => False) (add1 Ex D0) φ2 τ2 H3 ZOk.none (fun a h => .inl h) (fun a h => by rcases h with h | h; exact .inl h; subst h; exact .inr hD) R2.sr st2.z hsame
  by_cases hlt : i < xs.length
  · refine .inr ?_
    have ed : xs[i]? = some xs[i] := List.getElem?_eq_getElem hlt
    obtain ⟨go, yld⟩ := wk1 i xs[i] ed
    refine ⟨go, LcO G B Ex w g xs (out ++ rest) τf φ1 τ1 H1 ρ σ D0 (i + 1) (xs.length - (i + 1)), fun H' h' => ⟨xs.length - (i + 1), by omega, h'⟩, fun x H4 hy => ?_⟩
    obtain ⟨gr, rx⟩ := yld x H4 hy
    rw [List.drop_eq_getElem_cons hlt] at eL2
    obtain ⟨o, τ3, q, eg, hs3, eL3, rfl⟩ := lcLoop2_cons eL2
    rw [← hgd] at eg
    obtain ⟨ρ1, k, τk, es, ec, hk⟩ := lcTurn2_ok eg
    have R4 := R2.grow gr
    have nD : ∀ {φ' : List Addr} {τ' : Store} {H' : Hp}, SR G (add1 Ex D0) φ' τ' H' → ¬ live φ' τ' D0 := fun s ⟨n, _, _, z⟩ => (s.ex D0 (.inr rfl)).2 n z
    refine tgt_ok hG (R4.er.wipe _) rx es fun σ1 er1 hw => ⟨by rw [hw _ htg, wipe_idem], add1 Ex D0, φ2, ρ1, τ2, ⟨R4.sr, er1, R4.low, R4.bs⟩, ?_⟩
    rw [ec]
    intro φ5 b H5 st5 R5 hb
    have hb : b = k := hb
    subst hb
    have a5 : H5 D0 = some (.lst acc) := st5.keep D0 _ (gr D0 _ hD2) (nD R4.sr)
    have er5 := R4.er.step R4.sr st5
    have rl5 := (rl.grow gr).step R4.sr st5
    have st15 : Step φ1 τ1 H1 φ5 τk H5 := (st2.trans (Step.grow gr)).trans st5
    -- the outer state behind the turn
    have fini : ∀ (φ6 : List Addr) (acc6 : List V) (H6 : Hp), H6 D0 = some (.lst acc6) → SR G (add1 Ex D0) φ6 τ3 H6 → (∀ m, m ≤ B.length → Low m B → Low m τ3) → B.length ≤ τ3.length → ER G (Lv φ6 τ3 (add1 Ex D0)) φ6 H6 ρ σ → Step φ1 τ1 H1 φ6 τ3 H6 → RepL G (Lv φ6 τ3 (add1 Ex D0)) φ6 H6 (out ++ o) acc6 →
        LcO G B Ex w g xs (out ++ (o ++ q)) τf φ1 τ1 H1 ρ σ D0 (i + 1) (xs.length - (i + 1)) H6 := fun φ6 acc6 H6 a6 s6 l6 b6 er6 st6 rl6 =>
      ⟨rfl, by omega, φ6, τ3, out ++ o, acc6, q, a6, ⟨s6, er6, l6, b6⟩, st6, rl6, same_trans hsame hs3, eL3, by rw [List.append_assoc]⟩
    rcases hk with ⟨rfl, ey⟩ | ⟨rfl, rfl, rfl⟩
    · simp only [if_true]
      refine ⟨add1 Ex D0, φ5, ρ1, τk, R5, ?_⟩
      cases eI : fI1 ρ1 τk with
      | stuck => rw [eI] at ey; cases ey
      | exc => rw [eI] at ey; cases ey
      | ok r6 =>
      obtain ⟨⟨ys, w1⟩, τ6⟩ := r6
      rw [eI] at ey
      simp only [Out.bind_ok] at ey
      generalize hgn : (fun (d : D) (τ3 : Store) => lcTurn (wipeE ρ1 vs1) mt1 fc1 fe d τ3) = g1 at ey
      intro φ6 J1 H6 st6 R6 wk6
      have wk6 : WalkD G (add1 Ex D0) J1 ys w1 φ6 τ6 H6 := wk6
      have a6 : H6 D0 = some (.lst acc) := st6.keep D0 _ a5 (nD R5.sr)
      refine ⟨LcN G B Ex w1 g1 ys o τ3 φ1 τ1 H1 φ6 τ6 H6 ρ σ ρ1 σ1 D0 out, ⟨ys.length, by simp, Nat.zero_le _, φ6, τ6, [], acc, o, a6, R6, er5.step R5.sr st6, st15.trans st6, Step.refl.z, by simpa using rl5.step R5.sr st6, same_refl, by simpa using ey, rfl⟩, ?_⟩
      rintro j kk H7 ⟨rfl, hjl, φ7, τ7, o1, acc7, rest7, a7, R7, er7, st7, sz7, rl7, hs7, eL7, rfl⟩
      obtain ⟨wn1, wn2⟩ := wk6.2 (· = D0) (add1 Ex D0) φ7 τ7 H7 (fun a z => by subst z; exact ⟨.inr rfl, acc, a6⟩) (fun a h => h) (fun a h => .inl h) R7.sr sz7 hs7
      by_cases hlj : j < ys.length
      · refine .inr ?_
        have edj : ys[j]? = some ys[j] := List.getElem?_eq_getElem hlj
        obtain ⟨goj, yldj⟩ := wn1 j ys[j] edj
        refine ⟨goj, LcN G B Ex w1 g1 ys (o1 ++ rest7) τ3 φ1 τ1 H1 φ6 τ6 H6 ρ σ ρ1 σ1 D0 out (j + 1) (ys.length - (j + 1)), fun H' h' => ⟨ys.length - (j + 1), by omega, h'⟩, fun x8 H8 hy8 => ?_⟩
        obtain ⟨gr8, rx8⟩ := yldj x8 H8 hy8
        rw [List.drop_eq_getElem_cons hlj] at eL7
        obtain ⟨o8, τ8, q8, eg8, hs8, eL8, rfl⟩ := lcLoop_cons eL7
        rw [← hgn] at eg8
        obtain ⟨ρ8, k8, τk8, es8, ec8, hk8⟩ := lcTurn_ok eg8
        have R8 := R7.grow gr8
        have er8 := er7.grow gr8
        refine tgt_ok hG (R8.er.wipe _) rx8 es8 fun σ9 er9 hw9 => ⟨by rw [hw9 _ htg1, wipe_idem], add1 Ex D0, φ7, ρ8, τ7, ⟨R8.sr, er9, R8.low, R8.bs⟩, ?_⟩
        rw [ec8]
        intro φ10 b10 H10 st10 R10 hb10
        have hb10 : b10 = k8 := hb10
        subst hb10
        have a10 : H10 D0 = some (.lst acc7) := st10.keep D0 _ (gr8 D0 _ a7) (nD R8.sr)
        rcases hk8 with ⟨rfl, y, ey8, rfl⟩ | ⟨rfl, rfl, rfl⟩
        · simp only [if_true]
          refine ⟨add1 Ex D0, φ10, ρ8, τk8, R10, ?_⟩
          rw [ey8]
          intro φ11 v11 H11 st11 R11 p11
          have a11 : H11 D0 = some (.lst acc7) := st11.keep D0 _ a10 (nD R10.sr)
          have st811 := st10.trans st11
          have er11 := R8.er.step R8.sr st811
          have erO := er8.step R8.sr st811
          have rl11 := (rl7.grow gr8).step R8.sr st811
          have hlen := rl7.length
          have hzz := hz
          simp only [List.length_append, List.length_cons] at hlen hzz
          refine ⟨acc7, a11, by omega, rfl, by omega, φ11, τ8, o1 ++ [y], acc7 ++ [v11], q8, upd_same, ⟨SR.updEx (.inr rfl) a11 R11.sr, ER.updEx (.inr rfl) a11 er11, R11.low, R11.bs⟩, ER.updEx (.inr rfl) a11 erO, Step.updNew ((st7.trans (Step.grow gr8)).trans st811) hD, StepZ.put (Step.toZ (Step.toZ sz7 (nD R7.sr) (Step.grow gr8)) (nD R8.sr) st811), ?_, same_trans hs7 hs8, eL8, by simp⟩
          rw [← List.append_assoc]
          exact RepL.upd (.inr (.inr rfl)) a11 (rl11.append (RepL.one p11.1))
        · simp only [Bool.false_eq_true, if_false]
          exact ⟨rfl, by omega, φ10, τ8, o1, acc7, q8, a10, ⟨R10.sr, R8.er.step R8.sr st10, R10.low, R10.bs⟩, er8.step R8.sr st10, (st7.trans (Step.grow gr8)).trans st10, Step.toZ (Step.toZ sz7 (nD R7.sr) (Step.grow gr8)) (nD R8.sr) st10, (rl7.grow gr8).step R8.sr st10, same_trans hs7 hs8, eL8, rfl⟩
      · have hj' : j = ys.length := by omega
        subst hj'
        refine .inl ⟨wn2, ?_⟩
        rw [List.drop_length] at eL7
        have e0 : rest7 = [] ∧ τ3 = τ7 := by
          unfold lcLoop at eL7
          simp only [Out.ok.injEq, Prod.mk.injEq] at eL7
          exact ⟨eL7.1.symm, eL7.2.symm⟩
        obtain ⟨rfl, rfl⟩ := e0
        have := fini φ7 acc7 H7 a7 R7.sr R7.low R7.bs er7 st7 (by simpa using rl7)
        exact this
    · simp only [Bool.false_eq_true, if_false]
      exact fini φ5 acc H5 a5 R5.sr R5.low R5.bs er5 st15 (by simpa using rl5)
  · have hi' : i = xs.length := by omega
    subst hi'
    refine .inl ⟨wk2, ?_⟩
    rw [List.drop_length] at eL2
    have e0 : rest = [] ∧ τf = τ2 := by
      unfold lcLoop2 at eL2
      simp only [Out.ok.injEq, Prod.mk.injEq] at eL2
      exact ⟨eL2.1.symm, eL2.2.symm⟩
    obtain ⟨rfl, rfl⟩ := e0
    rw [List.append_nil] at h1
    refine h1.2 φ2 (.ref D0) H3 st2 R2.unadd ⟨?_, fun _ zs ez => ?_⟩
    · simp only [Rep]
      refine ⟨D0, acc, rfl, fun z => ?_, .inl hD2, rl.weak lv_mono⟩
      rcases z with z | z
      · obtain ⟨n, _, _, z⟩ := z
        exact (R2.sr.ex D0 (.inr rfl)).2 n z
      · exact (h1.1.sr.ex D0 z).1 hD
    · cases ez
      exact ⟨D0, acc, rfl, hD, hD2, R2.sr, rl⟩
end
end M
set_option Elab.async false
set_option linter.all false
set_option maxRecDepth 100000
set_option maxHeartbeats 4000000
/-! Statements' readings. -/
namespace M
open PySem PySem.Spec PyProof.Rows L2
def AtS (G : Gx) (B : Store) (W : WX) (fr : Bool) (Ex : Addr → Prop) (φ : List Addr) (ρ : Env) (τ : Store) (r : Res) (σ : L2.St) (H : Hp) (K : Ends) : Prop :=
  R G B Ex φ ρ τ σ H ∧ match r with
  | .nx ρ' τ' => ∀ φ' σ' H', Step φ τ H φ' τ' H' → R G B Ex φ' ρ' τ' σ' H' → K.nx σ' H'
  | .bk ρ' τ' => ∀ φ' σ' H', Step φ τ H φ' τ' H' → R G B Ex φ' ρ' τ' σ' H' → K.bk σ' H'
  | .ct ρ' τ' => ∀ φ' σ' H', Step φ τ H φ' τ' H' → R G B Ex φ' ρ' τ' σ' H' → K.ct σ' H'
  | .rt d τ' => ∀ φ' ρ' σ' v H', Step φ τ H φ' τ' H' → R G B Ex φ' ρ' τ' σ' H' → PD G fr Ex H φ' τ' H' d v → K.rt v H'
  | .exc c p ρ' τ' => ∀ φ' σ' cls dd H', Step φ τ H φ' τ' H' → R G B Ex φ' ρ' τ' σ' H' → XRep G (Lv φ' τ' Ex) φ' H' c p cls dd → W cls dd σ' H'
  | .stuck => False
def tS (G : Gx) (B : Store) (W : WX) (fr : Bool) (f : Env → Store → Res) : TS := fun K σ H => ∃ Ex φ ρ τ, AtS G B W fr Ex φ ρ τ (f ρ τ) σ H K
section
variable {X : Cx} {G : Gx} {B : Store} {W : WX} {fr : Bool} {a b c : Expr} {es : List Expr} {fa fb fc : Env → Store → Out (D × Store)} {fs ft : Env → Store → Res} {pos p : Pos} {tg : Expr}
variable {Ex : Addr → Prop} {φ φ1 : List Addr} {ρ : Env} {τ τ1 : Store} {σ : L2.St} {H H1 : Hp} {K : Ends} {st : Stmt} {sts : List Stmt}
/-- the rest of a run, from a later state -/
theorem AtS.later {r : Res} (h0 : AtS G B W fr Ex φ ρ τ r σ H K) {ρ1 : Env} {σ1 : L2.St} (st : Step φ τ H φ1 τ1 H1) (R1 : R G B Ex φ1 ρ1 τ1 σ1 H1) : AtS G B W fr Ex φ1 ρ1 τ1 r σ1 H1 K := by
  obtain ⟨hR, h⟩ := h0
  refine ⟨R1, ?_⟩
  cases r with
  | nx ρ' τ' => exact fun φ' σ' H' st' R' => h φ' σ' H' (st.trans st') R'
  | bk ρ' τ' => exact fun φ' σ' H' st' R' => h φ' σ' H' (st.trans st') R'
  | ct ρ' τ' => exact fun φ' σ' H' st' R' => h φ' σ' H' (st.trans st') R'
  | rt d τ' => exact fun φ' ρ' σ' v H' st' R' p => h φ' ρ' σ' v H' (st.trans st') R' (PD.back st.dom p)
  | exc c p ρ' τ' => exact fun φ' σ' cls dd H' st' R' x => h φ' σ' cls dd H' (st.trans st') R' x
  | stuck => exact h
theorem At.to {α β : Type} {P : Pst α β} {o : Out (α × Store)} {f : α → Store → Res} (h : AtS G B W fr Ex φ ρ τ (o.to ρ f) σ H K) :
    At G B W P Ex φ ρ τ o σ H fun v H1 => ∃ d φ1 τ1, o = .ok (d, τ1) ∧ Step φ τ H φ1 τ1 H1 ∧ P Ex H φ1 τ1 H1 d v ∧ AtS G B W fr Ex φ1 ρ τ1 (f d τ1) σ H1 K := by
  have hR := h.1
  refine ⟨hR, ?_⟩
  cases o with
  | stuck => exact h.2
  | exc c p τ' => exact fun φ' cls dd H' st R' x => h.2 φ' σ cls dd H' st R' x
  | ok q =>
    obtain ⟨d, τ1⟩ := q
    intro φ1 v H1 st R1 p
    exact ⟨d, φ1, τ1, rfl, st, p, AtS.later (r := f d τ1) h st R1⟩
theorem AtS.nx (h : AtS G B W fr Ex φ ρ τ (.nx ρ τ) σ H K) : K.nx σ H := h.2 φ σ H Step.refl h.1
theorem AtS.seq {r : Res} {g : Env → Store → Res} (h : AtS G B W fr Ex φ ρ τ (r.seq g) σ H K) :
    AtS G B W fr Ex φ ρ τ r σ H { K with nx := fun σ1 H1 => ∃ φ1 ρ1 τ1, r = .nx ρ1 τ1 ∧ AtS G B W fr Ex φ1 ρ1 τ1 (g ρ1 τ1) σ1 H1 K } := by
  refine ⟨h.1, ?_⟩
  cases r with
  | nx ρ1 τ1 => exact fun φ1 σ1 H1 st R1 => ⟨φ1, ρ1, τ1, rfl, AtS.later (r := g ρ1 τ1) h st R1⟩
  | bk ρ' τ' => exact h.2
  | ct ρ' τ' => exact h.2
  | rt d τ' => exact h.2
  | exc c p ρ' τ' => exact h.2
  | stuck => exact h.2
theorem _root_.L2.PS.imp {t t' : TS} (h : PS X st t) (k : ∀ D σ H, t' D σ H → t D σ H) : PS X st t' := ⟨fun pins s σ H D I q => h.run pins s σ H D I (k D σ H q)⟩
theorem _root_.L2.PSs.imp {t t' : TS} (h : PSs X sts t) (k : ∀ D σ H, t' D σ H → t D σ H) : PSs X sts t' := ⟨fun pins s σ H D I q => h.run pins s σ H D I (k D σ H q)⟩
/-! ### blocks -/
theorem pss_nilD : PSs X [] (tS G B W fr fun ρ τ => .nx ρ τ) := pss_nil.imp fun K σ H ⟨Ex, φ, ρ, τ, h⟩ => h.nx
theorem pss_consD (h1 : PS X st (tS G B W fr fs)) (h2 : PSs X sts (tS G B W fr ft)) : PSs X (st :: sts) (tS G B W fr fun ρ τ => (fs ρ τ).seq ft) := by
  refine (pss_cons h1 h2).imp ?_
  rintro K σ H ⟨Ex, φ, ρ, τ, h⟩
  refine ⟨Ex, φ, ρ, τ, ?_⟩
  have h' := h.seq
  refine ⟨h'.1, ?_⟩
  have h2 := h'.2
  cases e : fs ρ τ with
  | nx ρ1 τ1 =>
    rw [e] at h2
    intro φ1 σ1 H1 s1 R1
    obtain ⟨φ2, ρ2, τ2, e2, h3⟩ := h2 φ1 σ1 H1 s1 R1
    exact ⟨Ex, φ2, ρ2, τ2, h3⟩
  | bk ρ' τ' => rw [e] at h2; exact h2
  | ct ρ' τ' => rw [e] at h2; exact h2
  | rt d τ' => rw [e] at h2; exact h2
  | exc c p ρ' τ' => rw [e] at h2; exact h2
  | stuck => rw [e] at h2; exact h2
/-- a step of the meaning alone -/
theorem pss_ghost {g : Env → Store → Res} (h2 : PSs X sts (tS G B W fr ft)) (hg : ∀ K σ H Ex φ ρ τ, AtS G B W fr Ex φ ρ τ ((g ρ τ).seq ft) σ H K → ∃ φ1 ρ1 τ1, AtS G B W fr Ex φ1 ρ1 τ1 (ft ρ1 τ1) σ H K) :
    PSs X sts (tS G B W fr fun ρ τ => (g ρ τ).seq ft) :=
  h2.imp fun K σ H ⟨Ex, φ, ρ, τ, h⟩ => let ⟨φ1, ρ1, τ1, h1⟩ := hg K σ H Ex φ ρ τ h; ⟨Ex, φ1, ρ1, τ1, h1⟩
theorem ghost_forget {i : Nat} : ∀ K σ H Ex φ ρ τ, AtS G B W fr Ex φ ρ τ ((Res.nx (ρ.set i none) τ).seq ft) σ H K → ∃ φ1 ρ1 τ1, AtS G B W fr Ex φ1 ρ1 τ1 (ft ρ1 τ1) σ H K := by
  intro K σ H Ex φ ρ τ h
  refine ⟨φ, ρ.set i none, τ, AtS.later (r := ft (ρ.set i none) τ) h Step.refl ⟨h.1.sr, ⟨by rw [List.length_set]; exact h.1.er.len, fun j d e => ?_⟩, h.1.low, h.1.bs⟩⟩
  by_cases hj : i = j
  · subst hj
    by_cases hi : i < ρ.length
    · rw [List.getElem?_set_self hi] at e; cases e
    · rw [List.getElem?_eq_none (by rw [List.length_set]; omega)] at e; cases e
  · rw [List.getElem?_set_ne hj] at e
    exact h.1.er.val j d e
theorem live_drop {n : Nat} {x : Addr} (h : live φ (τ.set n none) x) : live φ τ x := by
  obtain ⟨i, xs, h1, h2⟩ := h
  by_cases hi : n = i
  · subst hi
    by_cases hn : n < τ.length
    · rw [List.getElem?_set_self hn] at h1; cases h1
    · rw [List.getElem?_eq_none (by rw [List.length_set]; omega)] at h1; cases h1
  · rw [List.getElem?_set_ne hi] at h1; exact ⟨i, xs, h1, h2⟩
theorem ghost_freeze {i : Nat} : ∀ K σ H Ex φ ρ τ, AtS G B W fr Ex φ ρ τ (((match ρ[i]? with
    | some (some (.ref n)) => (match τ[n]? with
      | some (some xs) => if B.length ≤ n then .nx (ρ.set i (some (.lst xs))) (τ.set n none) else .stuck
      | _ => .stuck)
    | _ => .stuck) : Res).seq ft) σ H K → ∃ φ1 ρ1 τ1, AtS G B W fr Ex φ1 ρ1 τ1 (ft ρ1 τ1) σ H K := by
  intro K σ H Ex φ ρ τ h
  split at h
  · rename_i n e1
    split at h
    · rename_i xs e2
      split at h
      · rename_i hb
        have sr := h.1.sr
        obtain ⟨v, ev, rv⟩ := h.1.er.val i _ e1
        simp only [Rep] at rv
        obtain ⟨l, hl, rfl⟩ := rv
        obtain ⟨vs, hv, rl⟩ := sr.cell n xs l e2 hl
        have hn : n < τ.length := (List.getElem?_eq_some_iff.mp e2).1
        have less : ∀ x, Lv φ (τ.set n none) Ex x → Lv φ τ Ex x := fun x hx => hx.imp live_drop id
        have step : Step φ τ H φ (τ.set n none) H := ⟨⟨[], by simp⟩, fun _ _ h _ => h, fun _ h => h, fun x hx => .inl (live_drop hx)⟩
        have nl : ¬ Lv φ (τ.set n none) Ex l := by
          rintro (⟨j, ys, h1, h2⟩ | h1)
          · have := sr.nd n j l hl h2
            subst this
            rw [List.getElem?_set_self hn] at h1; cases h1
          · exact (sr.ex l h1).2 n hl
        have sr' : SR G Ex φ (τ.set n none) H := by
          refine ⟨by rw [List.length_set]; exact sr.len, sr.nd, fun j ys x h1 h2 => ?_, sr.dom, sr.ex⟩
          by_cases hj : n = j
          · subst hj; rw [List.getElem?_set_self hn] at h1; cases h1
          · rw [List.getElem?_set_ne hj] at h1
            obtain ⟨ws, e3, r3⟩ := sr.cell j ys x h1 h2
            exact ⟨ws, e3, r3.weak less⟩
        refine ⟨φ, ρ.set i (some (.lst xs)), τ.set n none, AtS.later (r := ft _ _) h step ⟨sr', ?_, fun m hm lm j ys hj hy => ?_, by rw [List.length_set]; exact h.1.bs⟩⟩
        · refine ⟨by rw [List.length_set]; exact h.1.er.len, fun j d e => ?_⟩
          by_cases hj : i = j
          · subst hj
            have hi : i < ρ.length := (List.getElem?_eq_some_iff.mp e1).1
            rw [List.getElem?_set_self hi] at e
            cases e
            refine ⟨.ref l, ev, ?_⟩
            simp only [Rep]
            exact ⟨l, vs, rfl, nl, .inl hv, rl.weak less⟩
          · rw [List.getElem?_set_ne hj] at e
            obtain ⟨w, e4, r4⟩ := h.1.er.val j d e
            exact ⟨w, e4, r4.weak less⟩
        · by_cases hnj : n = j
          · subst hnj; rw [List.getElem?_set_self hn] at hy; cases hy
          · rw [List.getElem?_set_ne hnj] at hy; exact h.1.low m hm lm j ys hj hy
      · exact h.2.elim
    · exact h.2.elim
  · exact h.2.elim
/-! ### small statements -/
theorem ps_exprD (ha : PE X a (rd G B W fa)) (hs : swapsWith a none pos.line X.env = pure false) : PS X (.Expr a pos) (tS G B W fr fun ρ τ => (fa ρ τ).to ρ fun _ τ1 => .nx ρ τ1) := by
  refine (ps_expr ha hs).imp ?_
  rintro K σ H ⟨Ex, φ, ρ, τ, h⟩
  refine ⟨Ex, φ, ρ, τ, At.mono (At.to (P := PD G false) h) ?_⟩
  rintro v H1 ⟨d, φ1, τ1, e, st, p, h1⟩
  exact h1.nx
theorem ps_retD (ha : PE X a (tG G B W (PD G fr) fa)) : PS X (.Return (some a) pos) (tS G B W fr fun ρ τ => (fa ρ τ).to ρ fun d τ1 => .rt d τ1) := by
  refine (ps_ret ha).imp ?_
  rintro K σ H ⟨Ex, φ, ρ, τ, h⟩
  refine ⟨Ex, φ, ρ, τ, h.1, ?_⟩
  have h2 := h.2
  dsimp only at h2
  cases e : fa ρ τ with
  | stuck => rw [e] at h2; exact h2
  | exc c p τ' => rw [e] at h2; exact fun φ' cls dd H' st R' x => h2 φ' σ cls dd H' st R' x
  | ok q =>
    obtain ⟨d, τ1⟩ := q
    rw [e] at h2
    exact fun φ1 v H1 st R1 p => h2 φ1 ρ σ v H1 st R1 p
theorem ps_retvD {i : Nat} {x : Str} (hN : X.N[i]? = some x) (hv : Vis X.env.scope x) (hd : (x == ("__debug__" : Str)) = false) (hcd : (x == ("__classdict__" : Str)) = false) :
    PS X (.Return (some (.Name x p)) pos) (tS G B W fr fun ρ τ => (match ρ[i]? with
    | some (some (.ref n)) => .rt (.ref n) τ
    | _ => .stuck)) := by
  refine (ps_ret (pe_var hN hv hd hcd)).imp ?_
  rintro K σ H ⟨Ex, φ, ρ, τ, h⟩
  dsimp only at h
  split at h
  · rename_i n e
    obtain ⟨v, ev, r⟩ := h.1.er.val i _ e
    exact ⟨v, ev, h.2 φ ρ σ v H Step.refl h.1 (PD.nl r fun xs q => nomatch q)⟩
  · exact h.2.elim
theorem ps_retND : PS X (.Return none pos) (tS G B W fr fun ρ τ => .rt .non τ) := by
  refine ps_retN.imp ?_
  rintro K σ H ⟨Ex, φ, ρ, τ, h⟩
  exact h.2 φ ρ σ .non H Step.refl h.1 (PD.nl (by simp only [Rep]) fun xs q => nomatch q)
theorem ps_passD : PS X (.Pass pos) (tS G B W fr fun ρ τ => .nx ρ τ) := ps_pass.imp fun K σ H ⟨Ex, φ, ρ, τ, h⟩ => h.nx
theorem ps_breakD : PS X (.Break pos) (tS G B W fr fun ρ τ => .bk ρ τ) := ps_break.imp fun K σ H ⟨Ex, φ, ρ, τ, h⟩ => h.2 φ σ H Step.refl h.1
theorem ps_contD : PS X (.Continue pos) (tS G B W fr fun ρ τ => .ct ρ τ) := ps_continue.imp fun K σ H ⟨Ex, φ, ρ, τ, h⟩ => h.2 φ σ H Step.refl h.1
theorem ps_ifD {sa sb : List Stmt} (hc : PT X c (rdT G B W (tst fc))) (h1 : PSs X sa (tS G B W fr fs)) (h2 : PSs X sb (tS G B W fr ft)) :
    PS X (.If c sa sb pos) (tS G B W fr fun ρ τ => (fc ρ τ).to ρ fun x τ1 => (match tru (hd τ1 x) with
    | some true => fs ρ τ1
    | some false => ft ρ τ1
    | none => .stuck)) := by
  refine (ps_if hc h1 h2).imp ?_
  rintro K σ H ⟨Ex, φ, ρ, τ, h⟩
  have e : ((fc ρ τ).to ρ fun x τ1 => (match tru (hd τ1 x) with
    | some true => fs ρ τ1
    | some false => ft ρ τ1
    | none => .stuck)) = (tst fc ρ τ).to ρ fun k τ1 => if k = true then fs ρ τ1 else ft ρ τ1 := by
    unfold tst
    cases fc ρ τ with
    | stuck => rfl
    | exc => rfl
    | ok q =>
      obtain ⟨d, τ1⟩ := q
      simp only [Out.bind_ok, Out.to_ok]
      cases tru (hd τ1 d) with
      | none => rfl
      | some k => cases k <;> rfl
  dsimp only at h
  rw [e] at h
  refine ⟨Ex, φ, ρ, τ, At.mono (At.to (P := PB) h) ?_⟩
  rintro k H1 ⟨d, φ1, τ1, e1, st, p, h1⟩
  have p : k = d := p
  subst p
  cases k with
  | true => exact ⟨Ex, φ1, ρ, τ1, h1⟩
  | false => exact ⟨Ex, φ1, ρ, τ1, h1⟩
/-! ### stores -/
theorem at_asg (hG : G.K = X.K) {mt : MTgt} : ∀ K σ H, tS G B W fr (fun ρ τ => (fa ρ τ).to ρ fun d τ1 => (match setTgt ρ mt d with
    | some ρ' => .nx ρ' τ1
    | none => .stuck)) K σ H → tAsg (rd G B W fa) (tgtG X.K mt) K σ H := by
  rintro K σ H ⟨Ex, φ, ρ, τ, h⟩
  refine ⟨Ex, φ, ρ, τ, At.mono (At.to (P := PD G false) h) ?_⟩
  rintro v H1 ⟨d, φ1, τ1, e, st, p, h1⟩
  split at h1
  · rename_i ρ' es
    exact tgt_ok hG h1.1.er p.1 es fun σ1 er1 _ => h1.2 φ1 σ1 H1 Step.refl ⟨h1.1.sr, er1, h1.1.low, h1.1.bs⟩
  · exact h1.2.elim
theorem op_setL : PSet X (fun o i v H Q => ∃ p xs k j, o = .ref p ∧ i = .int k ∧ H p = some (.lst xs) ∧ ixN xs.length k = some j ∧ Q (upd H p (.lst (xs.set j v)))) := set_list
theorem ps_setidxD {p2 : Pos} (he : PE X c (rd G B W fc)) (ha : PE X a (rd G B W fa)) (hb : PE X b (rd G B W fb))
    (hs : swapsWithSole [.Subscript a b p2] c pos.line X.env = pure false) (hw : swappedStores [.Subscript a b p2] c X.env = pure none) (h1 : (assignEach [.Subscript a b p2] X.env).map (·.2) = [assign (.Subscript a b p2) X.env])
    (ha2 : ∀ v, assign (.Subscript a b p2) X.env v = (do
      let ov ← holding [v] (eval a X.env)
      let iv ← holding [v, ov] (eval b X.env)
      standAt p2
      holding [v, ov, iv] (setItem ov iv v)
      release [v, ov, iv] [])) :
    PS X (.Assign [.Subscript a b p2] c pos) (tS G B W fr fun ρ τ => (fc ρ τ).to ρ fun d τ1 => (fa ρ τ1).to ρ fun x τ2 => (fb ρ τ2).to ρ fun y τ3 => (match setIdx B.length x y d τ3 with
    | some τ4 => .nx ρ τ4
    | none => .stuck)) := by
  refine (ps_asg he (pg_sub ha hb op_setL ha2) hs hw h1).imp ?_
  rintro K σ H ⟨Ex, φ, ρ, τ, h⟩
  refine ⟨Ex, φ, ρ, τ, At.mono (At.to (P := PD G false) h) ?_⟩
  rintro v1 H1 ⟨d1, φ1, τ1, e1, st1, p1, h1⟩
  refine ⟨Ex, φ1, ρ, τ1, At.mono (At.to (P := PD G false) h1) ?_⟩
  rintro v2 H2 ⟨d2, φ2, τ2, e2, st2, p2, h2⟩
  refine ⟨Ex, φ2, ρ, τ2, At.mono (At.to (P := PD G false) h2) ?_⟩
  rintro v3 H3 ⟨d3, φ3, τ3, e3, st3, p3, h3⟩
  have q1 := (p1.1.step h1.1.sr st2).step h2.1.sr st3
  have q2 := p2.1.step h2.1.sr st3
  split at h3
  · rename_i τ4 es
    unfold setIdx at es
    split at es
    · rename_i n i
      simp only [Option.bind_eq_some_iff, Option.ite_none_right_eq_some, Option.some.injEq] at es
      obtain ⟨xs, eg, j, ej, hp, rfl⟩ := es
      rw [cellGet_some] at eg
      have q3 := p3.1
      simp only [Rep] at q2 q3
      obtain ⟨l, hl, rfl⟩ := q2
      subst q3
      obtain ⟨vs, hv, rl⟩ := h3.1.sr.cell n xs l eg hl
      exact ⟨l, vs, i, j, rfl, rfl, hv, by rw [← rl.length]; exact ej,
        h3.2 φ3 σ _ (Step.write eg hl hv) (h3.1.write eg hl hv (rl.set j q1) fun m hm hnm hx => lts_set j hx (mayPut_lt hp hm hnm))⟩
    · cases es
  · exact h3.2.elim
/-! ### errors -/
theorem pmk_own0 {C : Addr} {bmB : List Value} {Bn newId initId : String} {x : Str} (F : ExcBaseFacts Bn newId initId bmB) (q : PySem.W.excIn X.K C bmB newId = true) (gC : X.mg x = some (.ref C)) (kC : PySem.W.keepIn X.K (.ref C) = true) (r : Raises X (.ref C)) (hg : Gl X x)
    (hdb : (x == ("__debug__" : Str)) = false) : PMk X (.Call (.Name x p) [] [] pos) (fun _ H Q => Q (.ref C) none H) := by
  intro pins s σ H Q I h
  refine wpAny_Call_Name_kw (ld_glob I hg gC ?_ hdb)
  refine PySem.W.callWith_K0 I.kIn kC ?_
  show wpAny _ _ (PySem.call (.ref C) []) _ _ _
  obtain ⟨bm, N, nm, qn, bs, hdct, sn, sub, ab, col, dd, k0, k1, k2, k3, k5, mN, hC, hN, hni, T⟩ := exc_obj I.kIn q
  refine wpAny_call_exc_subT F T hC hN hni (fun h' e hm => ?_) (by show 0 ≤ sizeLine; omega)
  exact mk_of I hm r h (I.hok.gone hm.new)
/-- what is known of an error's class -/
structure ErrAt (X : Cx) (G : Gx) (x : Str) : Prop where
  at_ : ∃ C, X.mg x = some (.ref C) ∧ PySem.W.excIn X.K C [.type "ValueError", .type "Exception", .type "BaseException", .type "object"] "ValueError.__new__" = true ∧ PySem.W.keepIn X.K (.ref C) = true ∧ Raises X (.ref C)
theorem ps_raiseD {x : Str} {pos2 : Pos} (hmg : G.mg = X.mg) (hc : X.calm = true) (tk : Takes X W) (e : ErrAt X G x) (hg : Gl X x) (hdb : (x == ("__debug__" : Str)) = false) :
    PS X (.Raise (some (.Call (.Name x p) [] [] pos)) none pos2) (tS G B W fr fun ρ τ => .exc x .non ρ τ) := by
  obtain ⟨C, gC, q, kC, r⟩ := e.at_
  refine (ps_raise hc tk (pmk_own0 PySem.F.excBase_ValueError q gC kC r hg hdb)).imp ?_
  rintro K σ H ⟨Ex, φ, ρ, τ, h⟩
  exact h.2 φ σ (.ref C) none H Step.refl h.1 ⟨C, by rw [hmg]; exact gC, rfl, .inl ⟨rfl, rfl⟩⟩
end
end M
set_option Elab.async false
set_option linter.all false
set_option maxRecDepth 100000
set_option maxHeartbeats 4000000
namespace M
open PySem PySem.Spec PyProof.Rows L2
section
variable {X : Cx} {G : Gx} {B : Store} {W : WX} {fr : Bool} {a b c : Expr} {es : List Expr} {fa fb fc : Env → Store → Out (D × Store)} {fs ft : Env → Store → Res} {ga : Env → Store → Out (List D × Store)} {pos p : Pos} {tg : Expr}
/-! ### for -/
def forBody (mt : MTgt) (fs : Env → Store → Res) : D → Env → Store → Res := fun d ρ1 τ1 => (match setTgt ρ1 mt d with
    | some ρ2 => fs ρ2 τ1
    | none => .stuck)
theorem ps_forD {iter : Expr} {body : List Stmt} {mt : MTgt} {fI : Env → Store → Out ((List D × Option Nat) × Store)} (hG : G.K = X.K) (hp : PassesOwn (model X.prog X.w) X.A X.env X.xe) (hc : X.calm = true) (hi : PI X tg iter (rdI G B W fI)) (hg : PG X tg (tgtG X.K mt)) (hb : PSs X body (tS G B W fr fs))
    (hs : ∀ x, foldedSetIterable iter X.env x = pure x) :
    PS X (.For tg iter body [] pos) (tS G B W fr fun ρ τ => (fI ρ τ).to ρ fun s τ' => forLoop s.2 (forBody mt fs) s.1 ρ τ') := by
  refine (ps_for hp hc hi hg hb hs).imp ?_
  rintro K σ H ⟨Ex, φ, ρ, τ, h⟩
  refine ⟨Ex, φ, ρ, τ, At.mono (At.to (P := PWk G) h) ?_⟩
  rintro J H1 ⟨⟨xs, w⟩, φ1, τ1, e1, st1, wk, h1⟩
  simp only at h1
  have wk : WalkD G Ex J xs w φ1 τ1 H1 := wk
  let Wv : Nat → Nat → L2.St → Hp → Prop := fun i m σ2 H2 => m = xs.length - i ∧ i ≤ xs.length ∧ ∃ φ2 ρ2 τ2, AtS G B W fr Ex φ2 ρ2 τ2 (forLoop w (forBody mt fs) (xs.drop i) ρ2 τ2) σ2 H2 K ∧ Step φ1 τ1 H1 φ2 τ2 H2 ∧ same τ1 τ2 w
  refine ⟨Wv, ⟨xs.length, by simp, Nat.zero_le _, φ1, ρ, τ1, by simpa using h1, Step.refl, same_refl⟩, ?_⟩
  rintro i m σ2 H2 ⟨rfl, hle, φ2, ρ2, τ2, h2, st2, hsame⟩
  have R2 := h2.1
  obtain ⟨wk1, wk2⟩ := wk.2 (fun _ => False) Ex φ2 τ2 H2 ZOk.none (fun _ h => h) (fun _ h => .inl h) R2.sr st2.z hsame
  by_cases hlt : i < xs.length
  · refine .inr ?_
    obtain ⟨go, yld⟩ := wk1 i xs[i] (List.getElem?_eq_getElem hlt)
    refine ⟨go, Wv (i + 1) (xs.length - (i + 1)), fun σ' H' h' => ⟨xs.length - (i + 1), by omega, h'⟩, fun x H4 hy => ?_⟩
    obtain ⟨gr, rx⟩ := yld x H4 hy
    have R4 := R2.grow gr
    have h4 := AtS.later h2 (Step.grow gr) R4
    rw [List.drop_eq_getElem_cons hlt] at h4
    obtain ⟨_, h4⟩ := h4
    unfold forLoop at h4
    cases es : setTgt ρ2 mt xs[i] with
    | none => simp only [forBody, es] at h4
    | some ρ3 =>
      refine tgt_ok hG R4.er rx es fun σ1 er1 _ => ⟨Ex, φ2, ρ3, τ2, ⟨R4.sr, er1, R4.low, R4.bs⟩, ?_⟩
      simp only [forBody, es] at h4
      cases ef : fs ρ3 τ2 with
      | stuck => simp only [ef] at h4
      | nx ρ' τ' =>
        simp only [ef] at h4
        intro φ5 σ5 H5 st5 R5
        by_cases hs5 : same τ2 τ' w
        · rw [if_pos hs5] at h4
          exact ⟨rfl, by omega, φ5, ρ', τ', AtS.later (r := forLoop w (forBody mt fs) (xs.drop (i + 1)) ρ' τ') (K := K) (fr := fr) (W := W) ⟨R4, h4⟩ st5 R5, (st2.trans (Step.grow gr)).trans st5, same_trans hsame hs5⟩
        · rw [if_neg hs5] at h4; exact h4.elim
      | ct ρ' τ' =>
        simp only [ef] at h4
        intro φ5 σ5 H5 st5 R5
        by_cases hs5 : same τ2 τ' w
        · rw [if_pos hs5] at h4
          exact ⟨rfl, by omega, φ5, ρ', τ', AtS.later (r := forLoop w (forBody mt fs) (xs.drop (i + 1)) ρ' τ') (K := K) (fr := fr) (W := W) ⟨R4, h4⟩ st5 R5, (st2.trans (Step.grow gr)).trans st5, same_trans hsame hs5⟩
        · rw [if_neg hs5] at h4; exact h4.elim
      | bk ρ' τ' =>
        simp only [ef] at h4
        exact fun φ5 σ5 H5 st5 R5 => h4 φ5 σ5 H5 st5 R5
      | rt d τ' =>
        simp only [ef] at h4
        exact fun φ5 ρ5 σ5 v H5 st5 R5 p5 => h4 φ5 ρ5 σ5 v H5 st5 R5 p5
      | exc c p ρ' τ' =>
        simp only [ef] at h4
        exact fun φ5 σ5 cls dd H5 st5 R5 x5 => h4 φ5 σ5 cls dd H5 st5 R5 x5
  · have hi' : i = xs.length := by omega
    subst hi'
    refine .inl ⟨wk2, ?_⟩
    rw [List.drop_length] at h2
    unfold forLoop at h2
    exact h2.nx
/-! ### while -/
theorem ps_whileD {body : List Stmt} {n : Nat} (hp : PassesOwn (model X.prog X.w) X.A X.env X.xe) (hc : PT X c (rdT G B W (tst fc))) (hb : PSs X body (tS G B W fr fs)) :
    PS X (.While c body [] pos) (tS G B W fr fun ρ τ => whileLoop (tst fc) fs n ρ τ) := by
  refine (ps_while hp hc hb).imp ?_
  rintro K σ H ⟨Ex, φ, ρ, τ, h⟩
  let Wv : Nat → L2.St → Hp → Prop := fun m σ2 H2 => ∃ φ2 ρ2 τ2, AtS G B W fr Ex φ2 ρ2 τ2 (whileLoop (tst fc) fs m ρ2 τ2) σ2 H2 K
  refine ⟨Wv, ⟨n, φ, ρ, τ, h⟩, ?_⟩
  rintro m σ2 H2 ⟨φ2, ρ2, τ2, h2⟩
  cases m with
  | zero => exact h2.2.elim
  | succ m =>
    unfold whileLoop at h2
    refine ⟨Ex, φ2, ρ2, τ2, h2.1, ?_⟩
    obtain ⟨R2, h2⟩ := h2
    cases e : tst fc ρ2 τ2 with
    | stuck => simp only [e] at h2
    | exc x p τ' =>
      simp only [e] at h2
      exact fun φ' cls dd H' st R' x => h2 φ' σ2 cls dd H' st R' x
    | ok q =>
      obtain ⟨k, τ3⟩ := q
      simp only [e] at h2
      intro φ3 k' H3 st3 R3 hk
      have hk : k' = k := hk
      subst hk
      cases k' with
      | false =>
        simp only at h2
        exact h2 φ3 σ2 H3 st3 R3
      | true =>
        simp only at h2
        simp only [if_true]
        refine ⟨Wv m, fun σ' H' h' => ⟨m, Nat.lt_succ_self m, h'⟩, Ex, φ3, ρ2, τ3, R3, ?_⟩
        cases ef : fs ρ2 τ3 with
        | stuck => simp only [ef] at h2
        | nx ρ' τ' =>
          simp only [ef] at h2
          intro φ5 σ5 H5 st5 R5
          exact ⟨φ5, ρ', τ', AtS.later (r := whileLoop (tst fc) fs m ρ' τ') (K := K) (fr := fr) (W := W) ⟨R2, h2⟩ (st3.trans st5) R5⟩
        | ct ρ' τ' =>
          simp only [ef] at h2
          intro φ5 σ5 H5 st5 R5
          exact ⟨φ5, ρ', τ', AtS.later (r := whileLoop (tst fc) fs m ρ' τ') (K := K) (fr := fr) (W := W) ⟨R2, h2⟩ (st3.trans st5) R5⟩
        | bk ρ' τ' =>
          simp only [ef] at h2
          exact fun φ5 σ5 H5 st5 R5 => h2 φ5 σ5 H5 (st3.trans st5) R5
        | rt d τ' =>
          simp only [ef] at h2
          exact fun φ5 ρ5 σ5 v H5 st5 R5 p5 => h2 φ5 ρ5 σ5 v H5 (st3.trans st5) R5 (PD.back st3.dom p5)
        | exc x p ρ' τ' =>
          simp only [ef] at h2
          exact fun φ5 σ5 cls dd H5 st5 R5 x5 => h2 φ5 σ5 cls dd H5 (st3.trans st5) R5 x5
/-! ### names stored -/
abbrev asgF (mt : MTgt) (fa : Env → Store → Out (D × Store)) : Env → Store → Res := fun ρ τ => (fa ρ τ).to ρ fun d τ1 => (match setTgt ρ mt d with
    | some ρ' => .nx ρ' τ1
    | none => .stuck)
theorem ps_setD {i : Nat} {x : Str} {p' : Pos} (hG : G.K = X.K) (hN : X.N.Nodup) (hi : X.N[i]? = some x) (hx : Loc X.env.scope x) (ha : PE X a (rd G B W fa)) (hs : swapsWith a (some (.Name x p')) pos.line X.env = pure false) (hf : X.fn x = true ∨ X.env.scope.names.lookup x = some .local) :
    PS X (.Assign [.Name x p'] a pos) (tS G B W fr (asgF (.n i) fa)) :=
  (ps_set hN hi hx ha hs hf).imp fun K σ H h => at_asg hG (mt := .n i) K σ H h
theorem ps_asgD {mt : MTgt} (hG : G.K = X.K) (ha : PE X a (rd G B W fa)) (hg : PG X tg (tgtG X.K mt)) (hs : swapsWithSole [tg] a pos.line X.env = pure false) (hw : swappedStores [tg] a X.env = pure none) (h1 : (assignEach [tg] X.env).map (·.2) = [assign tg X.env]) :
    PS X (.Assign [tg] a pos) (tS G B W fr (asgF mt fa)) :=
  (ps_asg ha hg hs hw h1).imp fun K σ H h => at_asg hG (mt := mt) K σ H h
/-- names = values, stored from the right: two, three -/
def tParN (is : List Nat) (ta : TA) : TS := fun K σ H => ta σ H fun vs H1 => vs.length = is.length ∧ K.nx ((is.zip vs).foldl (fun σ p => σ.set p.1 (some p.2)) σ) H1
theorem ps_par3 {i j k : Nat} {x y z : Str} {a b c : Expr} {ta : TA} {px py pz pt : Pos} {kt k2 pt2} (hc : X.calm = true) (hN : X.N.Nodup) (hi : X.N[i]? = some x) (hj : X.N[j]? = some y) (hk : X.N[k]? = some z) (hij : i ≠ j) (hik : i ≠ k) (hjk : j ≠ k)
    (hx : X.env.scope.names.lookup x = some .local) (hy : X.env.scope.names.lookup y = some .local) (hz : X.env.scope.names.lookup z = some .local) (ha : PA X [a, b, c] ta)
    (hw : swappedStores [.Tuple [.Name x px, .Name y py, .Name z pz] kt pt] (.Tuple [a, b, c] k2 pt2) X.env = pure (some [x, y, z])) :
    PS X (.Assign [.Tuple [.Name x px, .Name y py, .Name z pz] kt pt] (.Tuple [a, b, c] k2 pt2) pos) (tParN [i, j, k] ta) := by
  have hs : swapsWithSole [.Tuple [.Name x px, .Name y py, .Name z pz] kt pt] (.Tuple [a, b, c] k2 pt2) pos.line X.env = pure false := by rfl
  refine ⟨fun pins s σ H D I h => ?_⟩
  rw [exec_Assign_arm]
  refine wpAny_bind (wpAny_standAt ?_)
  rw [hs]
  refine wpAny_bind (wpAny_pure ?_)
  rw [if_neg (by decide)]
  refine wpAny_bind (Tuple_ (thn (ha.run _ pins s σ H _ I h) fun us s1 ⟨vs, H1, I1, r1, q1⟩ => ?_))
  obtain ⟨hl, q1⟩ := q1
  obtain ⟨v1, v2, v3, rfl⟩ : ∃ v1 v2 v3, vs = [v1, v2, v3] := by
    match vs, hl with
    | [v1, v2, v3], _ => exact ⟨v1, v2, v3, rfl⟩
  obtain ⟨u1, u2, u3, rfl, rv, rw', ru⟩ : ∃ u1 u2 u3, us = [u1, u2, u3] ∧ RelV v1 u1 ∧ RelV v2 u2 ∧ RelV v3 u3 := by
    cases r1 with
    | cons p q =>
      cases q with
      | cons p' q' =>
        cases q' with
        | cons p'' q'' =>
          cases q''
          exact ⟨_, _, _, rfl, p, p', p''⟩
  refine wpAny_newObj_type ?_ (by show 3 ≤ sizeLine; decide)
  have I2 : Inv X pins σ H1 { s1 with heap := s1.heap.push { cls := .type "tuple", data := .seq [u1, u2, u3].toArray } } := I1.kept (t' := s1.toks) fun b o e => Heap.get?_push_of_some _ e
  rw [hw]
  refine wpAny_bind (wpAny_pure ?_)
  show wpAny (model X.prog X.w) X.A (do rule "assign.swapped-stores"; let items ← unpackItems (.ref s1.heap.objs.size) 3 none; assignInOrder [fun v => bindName X.env z v, fun v => bindName X.env y v, fun v => bindName X.env x v] items.reverse; pure Flow.next) _ _ _
  refine wpAny_bind (wpAny_rule (wpAny_bind (unpackItems_tuple (items := #[u1, u2, u3]) (I.ok.hd hc) (IsTup.new s1.heap _) fun h' hx' => ?_)))
  have I3 := I2.kept (h' := h') (t' := s1.toks) fun b o e => hx' b o (Nat.ne_of_lt (Heap.lt_size e)) e
  show wpAny _ _ (assignInOrder [fun v => bindName X.env z v, fun v => bindName X.env y v, fun v => bindName X.env x v] [u3, u2, u1] >>= fun _ => pure Flow.next) _ _ _
  refine wpAny_bind (assignInOrder_cons (wpAny_bindName (store_ok I3 hN hk (.inl hz) ru (fun s2 I4 => ?_) (.inr hz))))
  refine assignInOrder_cons (wpAny_bindName (store_ok I4 hN hj (.inl hy) rw' (fun s3 I5 => ?_) (.inr hy)))
  refine assignInOrder_cons (wpAny_bindName (store_ok I5 hN hi (.inl hx) rv (fun s4 I6 => assignInOrder_nil (wpAny_pure ?_)) (.inr hx)))
  have e : ((σ.set k (some v3)).set j (some v2)).set i (some v1) = ((σ.set i (some v1)).set j (some v2)).set k (some v3) := by
    rw [List.set_comm _ _ (Ne.symm hjk), List.set_comm _ _ (Ne.symm hik), List.set_comm _ _ (Ne.symm hij)]
  rw [e] at I6
  exact ⟨_, H1, I6, q1⟩
theorem at_par (hG : G.K = X.K) {is : List Nat} : ∀ K σ H, tS G B W fr (asgF (.t is) fun ρ τ => (ga ρ τ).bind fun r => if r.1.length ≤ 1000000 then .ok (.tup r.1, r.2) else .stuck) K σ H → tParN is (rdA G B W ga) K σ H := by
  rintro K σ H ⟨Ex, φ, ρ, τ, h⟩
  refine ⟨Ex, φ, ρ, τ, h.1, ?_⟩
  have hR := h.1
  have h2 := h.2
  dsimp only [asgF] at h2
  cases e : ga ρ τ with
  | stuck => simp only [e, Out.bind_stuck, Out.to_stuck] at h2
  | exc c p τ' =>
    simp only [e, Out.bind_exc, Out.to_exc] at h2
    exact fun φ' cls dd H' st R' x => h2 φ' σ cls dd H' st R' x
  | ok q =>
    obtain ⟨ds, τ1⟩ := q
    simp only [e, Out.bind_ok] at h2
    intro φ1 vs H1 st1 R1 rl
    have rl : RepL G (Lv φ1 τ1 Ex) φ1 H1 ds vs := rl
    by_cases hz : ds.length ≤ 1000000
    · rw [if_pos hz] at h2
      simp only [Out.to_ok, setTgt] at h2
      by_cases hl : ds.length = is.length
      · rw [if_pos hl] at h2
        refine ⟨by rw [← rl.length]; exact hl, ?_⟩
        refine h2 φ1 _ H1 st1 ⟨R1.sr, ?_, R1.low, R1.bs⟩
        exact er_fold is ds vs ρ σ hl.symm R1.er rl
      · rw [if_neg hl] at h2; exact h2.elim
    · rw [if_neg hz] at h2; exact h2.elim
where
  er_fold {L : Addr → Prop} {φ : List Addr} {H : Hp} : ∀ (is : List Nat) (xs : List D) (vs : List V) (ρ : Env) (σ : L2.St), is.length = xs.length → ER G L φ H ρ σ → RepL G L φ H xs vs →
      ER G L φ H ((is.zip xs).foldl (fun ρ p => ρ.set p.1 (some p.2)) ρ) ((is.zip vs).foldl (fun σ p => σ.set p.1 (some p.2)) σ)
    | [], [], _, ρ, σ, _, e, r => by simp only [RepL] at r; subst r; exact e
    | i :: is, x :: xs, _, ρ, σ, hl, e, r => by
      simp only [RepL] at r
      obtain ⟨v, vs, rfl, r1, r2⟩ := r
      exact er_fold is xs vs _ _ (by simpa using hl) (e.set r1) r2
    | [], _ :: _, _, _, _, hl, _, _ => by simp at hl
    | _ :: _, [], _, _, _, hl, _, _ => by simp at hl
theorem ps_par2D {i j : Nat} {x y : Str} {a b : Expr} {px py pt : Pos} {kt k2 pt2} (hG : G.K = X.K) (hc : X.calm = true) (hN : X.N.Nodup) (hi : X.N[i]? = some x) (hj : X.N[j]? = some y) (hij : i ≠ j)
    (hx : X.env.scope.names.lookup x = some .local) (hy : X.env.scope.names.lookup y = some .local) (ha : PA X [a, b] (rdA G B W ga))
    (hw : swappedStores [.Tuple [.Name x px, .Name y py] kt pt] (.Tuple [a, b] k2 pt2) X.env = pure (some [x, y])) :
    PS X (.Assign [.Tuple [.Name x px, .Name y py] kt pt] (.Tuple [a, b] k2 pt2) pos) (tS G B W fr (asgF (.t [i, j]) fun ρ τ => (ga ρ τ).bind fun r => if r.1.length ≤ 1000000 then .ok (.tup r.1, r.2) else .stuck)) := by
  refine (ps_par hc hN hi hj hij hx hy ha hw).imp fun K σ H h => ?_
  have h2 := at_par hG K σ H h
  unfold tParN at h2
  obtain ⟨Ex, φ, ρ, τ, h3⟩ := h2
  refine ⟨Ex, φ, ρ, τ, h3.mono ?_⟩
  rintro vs H1 ⟨hl, q⟩
  match vs, hl with
  | [v, w], _ => exact ⟨v, w, rfl, q⟩
theorem ps_par3D {i j k : Nat} {x y z : Str} {a b c : Expr} {px py pz pt : Pos} {kt k2 pt2} (hG : G.K = X.K) (hc : X.calm = true) (hN : X.N.Nodup) (hi : X.N[i]? = some x) (hj : X.N[j]? = some y) (hk : X.N[k]? = some z) (hij : i ≠ j) (hik : i ≠ k) (hjk : j ≠ k)
    (hx : X.env.scope.names.lookup x = some .local) (hy : X.env.scope.names.lookup y = some .local) (hz : X.env.scope.names.lookup z = some .local) (ha : PA X [a, b, c] (rdA G B W ga))
    (hw : swappedStores [.Tuple [.Name x px, .Name y py, .Name z pz] kt pt] (.Tuple [a, b, c] k2 pt2) X.env = pure (some [x, y, z])) :
    PS X (.Assign [.Tuple [.Name x px, .Name y py, .Name z pz] kt pt] (.Tuple [a, b, c] k2 pt2) pos) (tS G B W fr (asgF (.t [i, j, k]) fun ρ τ => (ga ρ τ).bind fun r => if r.1.length ≤ 1000000 then .ok (.tup r.1, r.2) else .stuck)) :=
  (ps_par3 hc hN hi hj hk hij hik hjk hx hy hz ha hw).imp fun K σ H h => at_par hG K σ H h
end
end M
set_option Elab.async false
set_option linter.all false
set_option maxRecDepth 100000
set_option maxHeartbeats 4000000
namespace M
open PySem PySem.Spec PyProof.Rows L2
theorem zipT_next_item_held {prog : Program} {w : World} {A : Around} {E : Value → Shared → Prop} {s : Shared} {z TI TO T i1 i2 l1 l2 : Addr} {f : Bool} {oT : Obj} {k1 k2 : Nat} {xs ys : Array Value} {x y : Value} {Q : Value → Shared → Prop}
    (D : ZipApart z TI TO i1 i2 l1 l2) (hz : IsZipHeld s.heap z TI TO T f) (hT : s.heap.get? T = some oT) (hTI : IsPair s.heap TI (.ref i1) (.ref i2)) (hi1 : s.heap.IsTupleIter i1 l1 k1) (hi2 : s.heap.IsTupleIter i2 l2 k2) (hl1 : s.heap.IsTuple l1 xs) (hl2 : s.heap.IsTuple l2 ys)
    (hx : xs[k1]? = some x) (hy : ys[k2]? = some y)
    (h : ∀ h' : Heap, IsZipHeld h' z TI TO T true → h'.IsTupleIter i1 l1 (k1 + 1) → h'.IsTupleIter i2 l2 (k2 + 1) → IsPair h' s.heap.objs.size x y → h'.objs.size = s.heap.objs.size + 1 →
      (∀ (c : Addr) (o : Obj), c ≠ z → c ≠ i1 → c ≠ i2 → s.heap.get? c = some o → h'.get? c = some o) → Q (.ref s.heap.objs.size) { heap := h', gens := s.gens, drawn := s.drawn, toks := s.toks, os := s.os }) :
    wpAny (model prog w) A (Builtin.«zip.__next__» { pos := [Value.ref z] }) (fun fin s' => ∃ v, fin = Fin.done (Flow.ret v) ∧ Q v s') E s := by
  unfold Builtin.«zip.__next__»
  refine wpAny_bind (wpAny_pure ?_)
  refine wpAny_bind (wpAny_field hz rfl rfl ?_)
  refine wpAny_bind (wpAny_field hz rfl rfl ?_)
  refine wpAny_bind (wpAny_seqItems hTI rfl ?_)
  refine wpAny_bind (wpAny_tupleHeld_zip hz hT fun h₁ hz₁ hs₁ => ?_)
  simp only [Bool.false_eq_true, if_false, List.forIn_toArray, List.forIn_cons, List.forIn_nil]
  refine wpAny_bind (wpAny_bind (wpAny_bind (wpAny_holding ?_)))
  show wpAny _ _ (Builtin.SmallTypes.nextOf _ >>= _) _ _ _
  refine wpAny_bind (wpAny_nextOf_tuple_item (hi1.extBut hs₁.extBut D.i1z) (hl1.extBut hs₁.extBut D.l1z) hx fun h₂ h1₂ hs₂ => ?_)
  refine wpAny_pure (wpAny_pure ?_)
  refine wpAny_bind (wpAny_bind (wpAny_holding ?_))
  show wpAny _ _ (Builtin.SmallTypes.nextOf _ >>= _) _ _ _
  refine wpAny_bind (wpAny_nextOf_tuple_item ((hi2.extBut hs₁.extBut D.i2z).extBut hs₂.extBut D.i12.symm) ((hl2.extBut hs₁.extBut D.l2z).extBut hs₂.extBut D.l2i1) hy fun h₃ h2₃ hs₃ => ?_)
  refine wpAny_pure (wpAny_pure (wpAny_pure ?_))
  have hsz : h₃.objs.size = s.heap.objs.size := by rw [hs₃.1, hs₂.1, hs₁.1]
  have hz₃ : IsZipHeld h₃ z TI TO T true := hs₃.extBut z _ D.i2z.symm (hs₂.extBut z _ D.i1z.symm hz₁)
  have ht1 : h₃.IsTupleIter i1 l1 (k1 + 1) := h1₂.extBut hs₃.extBut D.i12
  refine wpAny_bind (wpAny_newTuple ?_ (by show 2 ≤ sizeLine; decide))
  refine wpAny_pure ⟨_, rfl, ?_⟩
  have key : ∀ (c : Addr) (o : Obj), h₃.get? c = some o → (h₃.push { cls := Value.type "tuple", data := Data.seq [x, y].toArray }).get? c = some o := fun c o e => Heap.get?_push_of_some _ e
  show Q (.ref h₃.objs.size) _
  rw [hsz]
  refine h _ (key _ _ hz₃) (ht1.at fun o e => key _ _ e) (h2₃.at fun o e => key _ _ e) ?_ ?_ ?_
  · rw [← hsz]; exact Heap.get?_push_size _ rfl
  · rw [← hsz]; exact Array.size_push _
  · intro c o c1 c2 c3 e
    refine key _ _ (hs₃.extBut c o c3 (hs₂.extBut c o c2 (hs₁.extBut c o c1 e)))

theorem zipT_next_end_held {prog : Program} {w : World} {A : Around} {E : Value → Shared → Prop} {s : Shared} {z TI TO T i1 i2 l1 l2 : Addr} {f : Bool} {oT : Obj} {k1 k2 : Nat} {xs ys : Array Value} {Q : PySem.Fin → Shared → Prop}
    (hh : A.handled = none) (D : ZipApart z TI TO i1 i2 l1 l2) (hz : IsZipHeld s.heap z TI TO T f) (hT : s.heap.get? T = some oT) (hTI : IsPair s.heap TI (.ref i1) (.ref i2)) (hi1 : s.heap.IsTupleIter i1 l1 k1) (hi2 : s.heap.IsTupleIter i2 l2 k2) (hl1 : s.heap.IsTuple l1 xs) (hl2 : s.heap.IsTuple l2 ys)
    (hx : xs[k1]? = none ∨ ys[k2]? = none)
    (h : ∀ (h' : Heap) (e : Addr), (∀ (c : Addr) (o : Obj), c ≠ z → c ≠ i1 → c ≠ i2 → s.heap.get? c = some o → h'.get? c = some o) → (∃ o, h'.get? e = some o ∧ o.cls = Value.type "StopIteration") →
      E (.ref e) { heap := h', gens := s.gens, drawn := s.drawn, toks := s.toks, os := s.os }) :
    wpAny (model prog w) A (Builtin.«zip.__next__» { pos := [Value.ref z] }) Q E s := by
  unfold Builtin.«zip.__next__»
  refine wpAny_bind (wpAny_pure ?_)
  refine wpAny_bind (wpAny_field hz rfl rfl ?_)
  refine wpAny_bind (wpAny_field hz rfl rfl ?_)
  refine wpAny_bind (wpAny_seqItems hTI rfl ?_)
  refine wpAny_bind (wpAny_tupleHeld_zip hz hT fun h₁ hz₁ hs₁ => ?_)
  simp only [Bool.false_eq_true, if_false, List.forIn_toArray, List.forIn_cons, List.forIn_nil]
  refine wpAny_bind (wpAny_bind (wpAny_bind (wpAny_holding ?_)))
  show wpAny _ _ (Builtin.SmallTypes.nextOf _ >>= _) _ _ _
  cases ex : xs[k1]? with
  | none =>
    refine wpAny_bind (wpAny_nextOf_tuple_end hh (hi1.extBut hs₁.extBut D.i1z) (hl1.extBut hs₁.extBut D.l1z) ex fun h' e hk he => ?_)
    exact h h' e (fun c o c1 c2 c3 q => hk c o c2 (hs₁.extBut c o c1 q)) he
  | some x =>
    have ey : ys[k2]? = none := by
      rcases hx with hx | hx
      · rw [ex] at hx; cases hx
      · exact hx
    refine wpAny_bind (wpAny_nextOf_tuple_item (hi1.extBut hs₁.extBut D.i1z) (hl1.extBut hs₁.extBut D.l1z) ex fun h₂ h1₂ hs₂ => ?_)
    refine wpAny_pure (wpAny_pure ?_)
    refine wpAny_bind (wpAny_bind (wpAny_holding ?_))
    show wpAny _ _ (Builtin.SmallTypes.nextOf _ >>= _) _ _ _
    refine wpAny_bind (wpAny_nextOf_tuple_end hh ((hi2.extBut hs₁.extBut D.i2z).extBut hs₂.extBut D.i12.symm) ((hl2.extBut hs₁.extBut D.l2z).extBut hs₂.extBut D.l2i1) ey fun h' e hk he => ?_)
    exact h h' e (fun c o c1 c2 c3 q => hk c o c3 (hs₂.extBut c o c2 (hs₁.extBut c o c1 q))) he
theorem pyNext_zipT_item_held {prog : Program} {w : World} {A : Around} {E : Value → Shared → Prop} {s : Shared} {z TI TO T i1 i2 l1 l2 : Addr} {f : Bool} {oT : Obj} {k1 k2 : Nat} {xs ys : Array Value} {x y : Value} {Q : Option Value → Shared → Prop}
    (D : ZipApart z TI TO i1 i2 l1 l2) (hz : IsZipHeld s.heap z TI TO T f) (hT : s.heap.get? T = some oT) (hTI : IsPair s.heap TI (.ref i1) (.ref i2)) (hi1 : s.heap.IsTupleIter i1 l1 k1) (hi2 : s.heap.IsTupleIter i2 l2 k2) (hl1 : s.heap.IsTuple l1 xs) (hl2 : s.heap.IsTuple l2 ys)
    (hx : xs[k1]? = some x) (hy : ys[k2]? = some y)
    (h : ∀ h' : Heap, IsZipHeld h' z TI TO T true → h'.IsTupleIter i1 l1 (k1 + 1) → h'.IsTupleIter i2 l2 (k2 + 1) → IsPair h' s.heap.objs.size x y → h'.objs.size = s.heap.objs.size + 1 →
      (∀ (c : Addr) (o : Obj), c ≠ z → c ≠ i1 → c ≠ i2 → s.heap.get? c = some o → h'.get? c = some o) → Q (some (.ref s.heap.objs.size)) { heap := h', gens := s.gens, drawn := s.drawn, toks := s.toks, os := s.os }) :
    wpAny (model prog w) A (pyNext (Value.ref z)) Q E s := by
  have hTy : s.TypeIs (.ref z) "zip" := ⟨_, hz, rfl⟩
  refine wpAny_bind (wpAny_attempt (wpAny_callSpecial?_slot hTy F.slot_zip_next (wpAny_call_entry F.slot_zip_next hTy F.entry_zip_next
    (zipT_next_item_held D hz hT hTI hi1 hi2 hl1 hl2 hx hy fun h' a1 a3 a4 a5 a6 a7 => wpAny_pure (h h' a1 a3 a4 a5 a6 a7)) (F.args_zip_next_1 (.ref z)))))
theorem pyNext_zipT_end_held {prog : Program} {w : World} {A : Around} {E : Value → Shared → Prop} {s : Shared} {z TI TO T i1 i2 l1 l2 : Addr} {f : Bool} {oT : Obj} {k1 k2 : Nat} {xs ys : Array Value} {Q : Option Value → Shared → Prop}
    (hh : A.handled = none) (D : ZipApart z TI TO i1 i2 l1 l2) (hz : IsZipHeld s.heap z TI TO T f) (hT : s.heap.get? T = some oT) (hTI : IsPair s.heap TI (.ref i1) (.ref i2)) (hi1 : s.heap.IsTupleIter i1 l1 k1) (hi2 : s.heap.IsTupleIter i2 l2 k2) (hl1 : s.heap.IsTuple l1 xs) (hl2 : s.heap.IsTuple l2 ys)
    (hx : xs[k1]? = none ∨ ys[k2]? = none)
    (h : ∀ h' : Heap, (∀ (c : Addr) (o : Obj), c ≠ z → c ≠ i1 → c ≠ i2 → s.heap.get? c = some o → h'.get? c = some o) → Q none { heap := h', gens := s.gens, drawn := s.drawn, toks := s.toks, os := s.os }) :
    wpAny (model prog w) A (pyNext (Value.ref z)) Q E s := by
  have hTy : s.TypeIs (.ref z) "zip" := ⟨_, hz, rfl⟩
  refine wpAny_bind (wpAny_attempt (wpAny_callSpecial?_slot hTy F.slot_zip_next (wpAny_call_entry F.slot_zip_next hTy F.entry_zip_next
    (zipT_next_end_held hh D hz hT hTI hi1 hi2 hl1 hl2 hx fun h' e hk he => ?_) (F.args_zip_next_1 (.ref z)))))
  obtain ⟨o, ho, hc⟩ := he
  exact wpAny_bind (wpAny_isInstance ⟨o, ho, hc⟩ isSubtype_stop (wpAny_pure (h h' hk)))
/-! ### one pull, lists or tuples -/
def It (tp : Bool) (h : Heap) (i l : Addr) (k : Nat) (xs : Array Value) : Prop := if tp = true then h.IsTupleIter i l k ∧ h.IsTuple l xs else h.IsListIter i l k ∧ h.IsList l xs
/-- a zip, its last pair gone or alive -/
def Zp (h : Heap) (z TI TO i1 i2 : Addr) : Prop := IsPair h TI (.ref i1) (.ref i2) ∧ ((IsZip h z TI TO .none ∧ ∃ a b, IsPair h TO a b) ∨ ∃ T f oT, IsZipHeld h z TI TO T f ∧ h.get? T = some oT)
theorem It.keep {tp : Bool} {h h' : Heap} {i l : Addr} {k : Nat} {xs : Array Value} (H : It tp h i l k xs) (ki : ∀ o, h.get? i = some o → h'.get? i = some o) (kl : ∀ o, h.get? l = some o → h'.get? l = some o) : It tp h' i l k xs := by
  unfold It at *
  split
  · rename_i e
    rw [if_pos e] at H
    exact ⟨H.1.at ki, H.2.at kl⟩
  · rename_i e
    rw [if_neg e] at H
    exact ⟨H.1.at ki, H.2.at kl⟩
theorem pull_item {prog : Program} {w : World} {A : Around} {E : Value → Shared → Prop} {s : Shared} {tp : Bool} {z TI TO i1 i2 l1 l2 : Addr} {k1 k2 : Nat} {xs ys : Array Value} {x y : Value} {Q : Option Value → Shared → Prop}
    (D : ZipApart z TI TO i1 i2 l1 l2) (hz : Zp s.heap z TI TO i1 i2) (h1 : It tp s.heap i1 l1 k1 xs) (h2 : It tp s.heap i2 l2 k2 ys) (hx : xs[k1]? = some x) (hy : ys[k2]? = some y)
    (h : ∀ h' : Heap, Zp h' z TI TO i1 i2 → It tp h' i1 l1 (k1 + 1) xs → It tp h' i2 l2 (k2 + 1) ys → IsPair h' s.heap.objs.size x y →
      (∀ (c : Addr) (o : Obj), c ≠ z → c ≠ TO → c ≠ i1 → c ≠ i2 → s.heap.get? c = some o → h'.get? c = some o) → Q (some (.ref s.heap.objs.size)) { heap := h', gens := s.gens, drawn := s.drawn, toks := s.toks, os := s.os }) :
    wpAny (model prog w) A (pyNext (Value.ref z)) Q E s := by
  obtain ⟨hTI, hz⟩ := hz
  cases tp with
  | true =>
    unfold It at h1 h2
    rw [if_pos rfl] at h1 h2
    rcases hz with ⟨hz, a, b, hO⟩ | ⟨T, f, oT, hz, hT⟩
    · refine RZ.pyNext_zipT_item D hz hTI hO h1.1 h2.1 h1.2 h2.2 hx hy fun h' a1 a2 a3 a4 a5 a6 a7 => h h' ⟨a7 _ _ D.TIz D.TITO D.TIi1 D.TIi2 hTI, .inr ⟨_, _, _, a1, a5⟩⟩ ⟨a3, h1.2.at fun o e => a7 _ _ D.l1z D.l1TO D.l1i1 D.l1i2 e⟩ ⟨a4, h2.2.at fun o e => a7 _ _ D.l2z D.l2TO D.l2i1 D.l2i2 e⟩ a5 a7
    · refine pyNext_zipT_item_held D hz hT hTI h1.1 h2.1 h1.2 h2.2 hx hy fun h' a1 a3 a4 a5 a6 a7 => ?_
      have a8 : ∀ (c : Addr) (o : Obj), c ≠ z → c ≠ TO → c ≠ i1 → c ≠ i2 → s.heap.get? c = some o → h'.get? c = some o := fun c o q1 _ q3 q4 e => a7 c o q1 q3 q4 e
      refine h h' ⟨a8 _ _ D.TIz D.TITO D.TIi1 D.TIi2 hTI, ?_⟩ ⟨a3, h1.2.at fun o e => a8 _ _ D.l1z D.l1TO D.l1i1 D.l1i2 e⟩ ⟨a4, h2.2.at fun o e => a8 _ _ D.l2z D.l2TO D.l2i1 D.l2i2 e⟩ a5 a8
      refine .inr ⟨T, true, ?_⟩
      by_cases c1 : T = z
      · subst c1; exact ⟨_, a1, a1⟩
      · by_cases c2 : T = i1
        · subst c2; obtain ⟨o, ho, _⟩ := a3; exact ⟨o, a1, ho⟩
        · by_cases c3 : T = i2
          · subst c3; obtain ⟨o, ho, _⟩ := a4; exact ⟨o, a1, ho⟩
          · exact ⟨oT, a1, a7 T oT c1 c2 c3 hT⟩
  | false =>
    unfold It at h1 h2
    rw [if_neg (by decide)] at h1 h2
    rcases hz with ⟨hz, a, b, hO⟩ | ⟨T, f, oT, hz, hT⟩
    · refine wpAny_pyNext_zip_item D hz hTI hO h1.1 h2.1 h1.2 h2.2 hx hy fun h' a1 a2 a3 a4 a5 a6 a7 => h h' ⟨a7 _ _ D.TIz D.TITO D.TIi1 D.TIi2 hTI, .inr ⟨_, _, _, a1, a5⟩⟩ ⟨a3, h1.2.at fun o e => a7 _ _ D.l1z D.l1TO D.l1i1 D.l1i2 e⟩ ⟨a4, h2.2.at fun o e => a7 _ _ D.l2z D.l2TO D.l2i1 D.l2i2 e⟩ a5 a7
    · refine wpAny_pyNext_zip_item_held D hz hT hTI h1.1 h2.1 h1.2 h2.2 hx hy fun h' a1 a3 a4 a5 a6 a7 => ?_
      have a8 : ∀ (c : Addr) (o : Obj), c ≠ z → c ≠ TO → c ≠ i1 → c ≠ i2 → s.heap.get? c = some o → h'.get? c = some o := fun c o q1 _ q3 q4 e => a7 c o q1 q3 q4 e
      refine h h' ⟨a8 _ _ D.TIz D.TITO D.TIi1 D.TIi2 hTI, ?_⟩ ⟨a3, h1.2.at fun o e => a8 _ _ D.l1z D.l1TO D.l1i1 D.l1i2 e⟩ ⟨a4, h2.2.at fun o e => a8 _ _ D.l2z D.l2TO D.l2i1 D.l2i2 e⟩ a5 a8
      refine .inr ⟨T, true, ?_⟩
      by_cases c1 : T = z
      · subst c1; exact ⟨_, a1, a1⟩
      · by_cases c2 : T = i1
        · subst c2; obtain ⟨o, ho, _⟩ := a3; exact ⟨o, a1, ho⟩
        · by_cases c3 : T = i2
          · subst c3; obtain ⟨o, ho, _⟩ := a4; exact ⟨o, a1, ho⟩
          · exact ⟨oT, a1, a7 T oT c1 c2 c3 hT⟩
theorem pull_end {prog : Program} {w : World} {A : Around} {E : Value → Shared → Prop} {s : Shared} {tp : Bool} {z TI TO i1 i2 l1 l2 : Addr} {k1 k2 : Nat} {xs ys : Array Value} {Q : Option Value → Shared → Prop}
    (hh : A.handled = none) (D : ZipApart z TI TO i1 i2 l1 l2) (hz : Zp s.heap z TI TO i1 i2) (h1 : It tp s.heap i1 l1 k1 xs) (h2 : It tp s.heap i2 l2 k2 ys) (hx : xs[k1]? = none ∨ ys[k2]? = none)
    (h : ∀ h' : Heap, (∀ (c : Addr) (o : Obj), c ≠ z → c ≠ TO → c ≠ i1 → c ≠ i2 → s.heap.get? c = some o → h'.get? c = some o) → Q none { heap := h', gens := s.gens, drawn := s.drawn, toks := s.toks, os := s.os }) :
    wpAny (model prog w) A (pyNext (Value.ref z)) Q E s := by
  obtain ⟨hTI, hz⟩ := hz
  cases tp with
  | true =>
    unfold It at h1 h2
    rw [if_pos rfl] at h1 h2
    rcases hz with ⟨hz, a, b, hO⟩ | ⟨T, f, oT, hz, hT⟩
    · exact RZ.pyNext_zipT_end hh D hz hTI hO h1.1 h2.1 h1.2 h2.2 hx h
    · exact pyNext_zipT_end_held hh D hz hT hTI h1.1 h2.1 h1.2 h2.2 hx fun h' k => h h' fun c o q1 _ q3 q4 e => k c o q1 q3 q4 e
  | false =>
    unfold It at h1 h2
    rw [if_neg (by decide)] at h1 h2
    rcases hz with ⟨hz, a, b, hO⟩ | ⟨T, f, oT, hz, hT⟩
    · exact wpAny_pyNext_zip_end hh D hz hTI hO h1.1 h2.1 h1.2 h2.2 hx h
    · exact wpAny_pyNext_zip_end_held hh D hz hT hTI h1.1 h2.1 h1.2 h2.2 hx fun h' k => h h' fun c o q1 _ q3 q4 e => k c o q1 q3 q4 e
end M
set_option Elab.async false
set_option linter.all false
set_option maxRecDepth 100000
set_option maxHeartbeats 4000000
namespace M
open PySem PySem.Spec PyProof.Rows L2
/-- the place of list(zip(..)) behind i pulls -/
structure ZL (tp : Bool) (z TI TO i1 i2 l1 l2 S n0 : Nat) (xs ys : Array Value) (hb : Heap) (i : Nat) (acc : Array Value) (h : Heap) : Prop where
  n : acc.size = i
  zp : Zp h z TI TO i1 i2
  t1 : It tp h i1 l1 i xs
  t2 : It tp h i2 l2 i ys
  got : ∀ (j : Nat) (v : Value), acc[j]? = some v → ∃ (T : Addr) (x y : Value), v = .ref T ∧ n0 ≤ T ∧ T ≠ z ∧ T ≠ TO ∧ T ≠ i1 ∧ T ≠ i2 ∧ T ≠ S ∧ xs[j]? = some x ∧ ys[j]? = some y ∧ IsPair h T x y
  nd : ∀ (j k : Nat) (v : Value), acc[j]? = some v → acc[k]? = some v → j = k
  old : ∀ (b : Addr) (o : Obj), hb.get? b = some o → h.get? b = some o
theorem ZL.frame {tp : Bool} {z TI TO i1 i2 l1 l2 S n0 : Nat} {xs ys : Array Value} {hb : Heap} {i : Nat} {acc : Array Value} {h h' : Heap} (L : ZL tp z TI TO i1 i2 l1 l2 S n0 xs ys hb i acc h)
    (k : ∀ (b : Addr) (o : Obj), b ≠ S → h.get? b = some o → h'.get? b = some o) (s1 : z ≠ S) (s2 : TI ≠ S) (s3 : TO ≠ S) (s4 : i1 ≠ S) (s5 : i2 ≠ S) (s6 : l1 ≠ S) (s7 : l2 ≠ S) (s8 : ∀ (b : Addr) (o : Obj), hb.get? b = some o → b ≠ S) (ka : ∀ o, h.get? S = some o → ∃ o', h'.get? S = some o') : ZL tp z TI TO i1 i2 l1 l2 S n0 xs ys hb i acc h' := by
  refine ⟨L.n, ⟨k _ _ s2 L.zp.1, ?_⟩, L.t1.keep (fun o => k _ o s4) fun o => k _ o s6, L.t2.keep (fun o => k _ o s5) fun o => k _ o s7, fun j v e => ?_, L.nd, fun b o e => k b o (s8 b o e) (L.old b o e)⟩
  · rcases L.zp.2 with ⟨hz, a, b, hO⟩ | ⟨T, f, oT, hz, hT⟩
    · exact .inl ⟨k _ _ s1 hz, a, b, k _ _ s3 hO⟩
    · by_cases e : T = S
      · subst e
        obtain ⟨o', e'⟩ := ka _ hT
        exact .inr ⟨T, f, o', k _ _ s1 hz, e'⟩
      · exact .inr ⟨T, f, oT, k _ _ s1 hz, k _ _ e hT⟩
  · obtain ⟨T, x, y, e1, e2, e3, e4, e5, e6, e7, e8, e9, e10⟩ := L.got j v e
    exact ⟨T, x, y, e1, e2, e3, e4, e5, e6, e7, e8, e9, k _ _ e7 e10⟩

/-- the fixed places -/
structure ZPl (z TI TO i1 i2 l1 l2 S n0 : Nat) (hb : Heap) : Prop where
  ap : ZipApart z TI TO i1 i2 l1 l2
  s1 : z ≠ S
  s2 : TI ≠ S
  s3 : TO ≠ S
  s4 : i1 ≠ S
  s5 : i2 ≠ S
  s6 : l1 ≠ S
  s7 : l2 ≠ S
  s8 : ∀ (b : Addr) (o : Obj), hb.get? b = some o → b ≠ S ∧ b ≠ z ∧ b ≠ TO ∧ b ≠ i1 ∧ b ≠ i2
  zn : n0 ≤ z
  tz : TO < z
theorem zl_loop {prog : Program} {w : World} {A : Around} {R : Result → Shared → Prop} {tp : Bool} {z TI TO i1 i2 l1 l2 S n0 : Nat} {xs ys : Array Value} {hb : Heap} (hh : A.in1.handled = none) (P : ZPl z TI TO i1 i2 l1 l2 S n0 hb) (res : Value) (hn : min xs.size ys.size ≤ sizeLine) : ∀ (k i : Nat) (s : Shared) (acc : Array Value) (c : Nat), min xs.size ys.size - i = k → i ≤ min xs.size ys.size →
    s.heap.get? S = some { cls := .type "list", data := .seq acc c } → ZL tp z TI TO i1 i2 l1 l2 S n0 xs ys hb i acc s.heap →
    (∀ (h' : Heap) (acc' : Array Value) (c' : Nat), h'.get? S = some { cls := .type "list", data := .seq acc' c' } → acc'.size = min xs.size ys.size →
      (∀ (j : Nat) (v : Value), acc'[j]? = some v → ∃ (T : Addr) (x y : Value), v = .ref T ∧ n0 ≤ T ∧ T ≠ S ∧ xs[j]? = some x ∧ ys[j]? = some y ∧ IsPair h' T x y) → (∀ (j k : Nat) (v : Value), acc'[j]? = some v → acc'[k]? = some v → j = k) →
      (∀ (b : Addr) (o : Obj), hb.get? b = some o → h'.get? b = some o) → R (.ok (.ret res)) { heap := h', gens := s.gens, drawn := s.drawn, toks := s.toks, os := s.os }) →
    codeAny (model prog w) A (.builtin "list.extend.loop" { pos := [.ref S, .ref z, res] }) R s := by
  intro k
  induction k with
  | zero =>
    intro i s acc c hk hi hS L hR
    have hi : i = min xs.size ys.size := by omega
    refine codeAny_builtin F.entry_extend_loop ?_
    rw [Around.under_plainId F.plain_extend_loop { pos := [.ref S, .ref z, res] }]
    refine wpAny_bind (pull_end hh P.ap L.zp L.t1 L.t2 ?_ fun h' kp => ?_)
    · subst hi
      by_cases e : xs.size ≤ ys.size
      · left; rw [Nat.min_eq_left e]; simp
      · right; rw [Nat.min_eq_right (by omega)]; simp
    · refine wpAny_pure ?_
      refine hR h' acc c (kp _ _ P.s1.symm P.s3.symm P.s4.symm P.s5.symm hS) (by rw [L.n, hi]) (fun j v e => ?_) L.nd fun b o e => ?_
      · obtain ⟨T, x, y, e1, e2, e3, e4, e5, e6, e7, e8, e9, e10⟩ := L.got j v e
        exact ⟨T, x, y, e1, e2, e7, e8, e9, kp _ _ e3 e4 e5 e6 e10⟩
      · obtain ⟨_, q1, q2, q3, q4⟩ := P.s8 b o e
        exact kp b o q1 q2 q3 q4 (L.old b o e)
  | succ k ih =>
    intro i s acc c hk hi hS L hR
    have hi1 : i < xs.size := by omega
    have hi2 : i < ys.size := by omega
    refine codeAny_builtin F.entry_extend_loop ?_
    rw [Around.under_plainId F.plain_extend_loop { pos := [.ref S, .ref z, res] }]
    refine wpAny_bind (pull_item P.ap L.zp L.t1 L.t2 (x := xs[i]) (y := ys[i]) (by simp [hi1]) (by simp [hi2]) fun h' z1 a1 a2 a3 kp => ?_)
    have hS' := kp _ _ P.s1.symm P.s3.symm P.s4.symm P.s5.symm hS
    have hz0 : ∃ o, s.heap.get? z = some o := by
      rcases L.zp.2 with ⟨hz, _⟩ | ⟨T, f, oT, hz, hT⟩
      · exact ⟨_, hz⟩
      · exact ⟨_, hz⟩
    have alive : ∀ {a : Addr} {o : Obj}, s.heap.get? a = some o → s.heap.objs.size ≠ a := fun {a o} e => Nat.ne_of_gt (Heap.lt_size e)
    have tit : ∀ {ii ll : Addr} {kk : Nat} {zs : Array Value}, M.It tp s.heap ii ll kk zs → ∃ o, s.heap.get? ii = some o := fun {ii ll kk zs} h => by
      unfold M.It at h
      split at h
      · obtain ⟨o, ho, _⟩ := h.1; exact ⟨o, ho⟩
      · obtain ⟨o, ho, _⟩ := h.1; exact ⟨o, ho⟩
    obtain ⟨oz, hz0⟩ := hz0
    obtain ⟨o1, ho1⟩ := tit L.t1
    obtain ⟨o2, ho2⟩ := tit L.t2
    have zlt : z < s.heap.objs.size := Heap.lt_size hz0
    have push : ∀ j v, (acc.push (.ref s.heap.objs.size))[j]? = some v → (j = i ∧ v = .ref s.heap.objs.size) ∨ (j < i ∧ acc[j]? = some v) := fun j v e => by
      rw [Array.getElem?_push, L.n] at e
      split at e
      · rename_i hj; cases e; exact .inl ⟨hj, rfl⟩
      · have hj : j < acc.size := (Array.getElem?_eq_some_iff.mp e).1
        rw [L.n] at hj
        exact .inr ⟨hj, e⟩
    have T0 : ∀ {j : Nat} {v : Value}, acc[j]? = some v → v ≠ .ref s.heap.objs.size := fun {j v} e q => by
      obtain ⟨T, x, y, e1, e2, e3, e4, e5, e6, e7, e8, e9, e10⟩ := L.got j v e
      rw [e1] at q
      injection q with q
      exact alive e10 q.symm
    refine wpAny_bind (wpAny_updateSeq hS' rfl (wpAny_pure ⟨plainId_quiet F.plain_extend_loop { pos := [.ref S, .ref z, res] }, ?_⟩) (by rw [L.n]; exact Nat.le_trans (Nat.le_of_lt (Nat.lt_of_lt_of_le (Nat.lt_min.mpr ⟨hi1, hi2⟩) hn)) (Nat.le_refl _))
      (by rw [Array.size_push, L.n]; exact Nat.succ_le_succ (Nat.le_of_lt (Nat.lt_of_lt_of_le (Nat.lt_min.mpr ⟨hi1, hi2⟩) hn))))
    have L' : ZL tp z TI TO i1 i2 l1 l2 S n0 xs ys hb (i + 1) (acc.push (.ref s.heap.objs.size)) h' := by
      refine ⟨by rw [Array.size_push, L.n], z1, a1, a2, fun j v e => ?_, fun j k v e1 e2 => ?_, fun b o e => ?_⟩
      · rcases push j v e with ⟨rfl, rfl⟩ | ⟨hj, e⟩
        · exact ⟨_, xs[j], ys[j], rfl, Nat.le_trans P.zn (Nat.le_of_lt zlt), Nat.ne_of_gt zlt, Nat.ne_of_gt (Nat.lt_trans P.tz zlt), alive ho1, alive ho2, alive hS, by simp [hi1], by simp [hi2], a3⟩
        · obtain ⟨T, x, y, e1, e2, e3, e4, e5, e6, e7, e8, e9, e10⟩ := L.got j v e
          exact ⟨T, x, y, e1, e2, e3, e4, e5, e6, e7, e8, e9, kp _ _ e3 e4 e5 e6 e10⟩
      · rcases push j v e1 with ⟨rfl, rfl⟩ | ⟨hj, e1⟩
        · rcases push k _ e2 with ⟨rfl, _⟩ | ⟨hk', e2⟩
          · rfl
          · exact absurd rfl (T0 e2)
        · rcases push k _ e2 with ⟨rfl, rfl⟩ | ⟨hk', e2⟩
          · exact absurd rfl (T0 e1)
          · exact L.nd j k v e1 e2
      · obtain ⟨_, q1, q2, q3, q4⟩ := P.s8 b o e
        exact kp b o q1 q2 q3 q4 (L.old b o e)
    refine ih (i + 1) _ (acc.push (.ref s.heap.objs.size)) _ (by omega) (by omega) (Heap.get?_update_self (Obj.mapSeq fun x => x.push _) hS' rfl) ?_ hR
    exact L'.frame (fun b o hb e => (Heap.get?_update_other h' (Obj.mapSeq fun x => x.push _) hb.symm).trans e) P.s1 P.s2 P.s3 P.s4 P.s5 P.s6 P.s7 (fun b o e => (P.s8 b o e).1) fun o e => ⟨_, Heap.get?_update_self (Obj.mapSeq fun x => x.push _) hS' rfl⟩
end M
set_option Elab.async false
set_option linter.all false
set_option maxRecDepth 100000
set_option maxHeartbeats 4000000
namespace M
open PySem PySem.Spec PyProof.Rows L2
theorem nolen_zip : typeLookup (Value.type "zip") (Str.ofString "__len__") = pure none := by
  rw [typeLookup_type, builtinLookup_eq_fast]; rfl
theorem nohint_zip : typeLookup (Value.type "zip") (Str.ofString "__length_hint__") = pure none := by
  rw [typeLookup_type, builtinLookup_eq_fast]; rfl
theorem zl_extend {prog : Program} {w : World} {A : Around} {R : Result → Shared → Prop} {tp : Bool} {z TI TO i1 i2 l1 l2 S n0 : Nat} {xs ys : Array Value} {hb : Heap} (hh : A.in1.handled = none) (P : ZPl z TI TO i1 i2 l1 l2 S n0 hb) (res : Value) (hn : min xs.size ys.size ≤ sizeLine) (s : Shared) (c : Nat)
    (hS : s.heap.get? S = some { cls := .type "list", data := .seq #[] c }) (hz : IsZip s.heap z TI TO .none) (L : ZL tp z TI TO i1 i2 l1 l2 S n0 xs ys hb 0 #[] s.heap)
    (hR : ∀ (h' : Heap) (acc' : Array Value) (c' : Nat), h'.get? S = some { cls := .type "list", data := .seq acc' c' } → acc'.size = min xs.size ys.size →
      (∀ (j : Nat) (v : Value), acc'[j]? = some v → ∃ (T : Addr) (x y : Value), v = .ref T ∧ n0 ≤ T ∧ T ≠ S ∧ xs[j]? = some x ∧ ys[j]? = some y ∧ IsPair h' T x y) → (∀ (j k : Nat) (v : Value), acc'[j]? = some v → acc'[k]? = some v → j = k) →
      (∀ (b : Addr) (o : Obj), hb.get? b = some o → h'.get? b = some o) → R (.ok (.ret res)) { heap := h', gens := s.gens, drawn := s.drawn, toks := s.toks, os := s.os }) :
    wpAny (model prog w) A.in1 (Builtin.List.listExtendWith (.ref S) (.ref z) res) (fun fin s' => match fin with | .done f => R (.ok f) s' | .again c' => c'.quiet = true ∧ codeAny (model prog w) A c' R s') (fun e s' => R (.error e) s') s := by
  have hTy : s.TypeIs (.ref z) "zip" := ⟨_, hz, rfl⟩
  unfold Builtin.List.listExtendWith
  refine wpAny_bind (wpAny_typeOf hTy ?_)
  have c1 : (Builtin.List.listSameRef (.ref S) (.ref z) || Value.type "zip" == Value.type "list" || Value.type "zip" == Value.type "tuple") = false := by
    have h1 : Builtin.List.listSameRef (.ref S) (.ref z) = false := by
      show (S == z) = false
      exact beq_eq_false_iff_ne.mpr P.s1.symm
    rw [h1]; rfl
  rw [if_neg (by rw [c1]; decide)]
  refine wpAny_bind (wpAny_pyIter_zip hz ?_)
  refine wpAny_bind (wpAny_holding ?_)
  unfold Builtin.List.listLengthHint
  refine wpAny_bind (wpAny_specialOf hTy nolen_zip ?_)
  show wpAny _ _ (specialOf (.ref z) (Str.ofString "__length_hint__") >>= _) _ _ _
  refine wpAny_bind (wpAny_specialOf hTy nohint_zip ?_)
  refine wpAny_pure ?_
  show wpAny _ _ (rule "list.extend.makes-room" >>= _) _ _ _
  refine wpAny_bind (wpAny_rule ?_)
  refine wpAny_bind ?_
  refine wpAny_bind (wpAny_updateSeq hS rfl ?_ (by decide) (by decide))
  have hS₂ := Heap.get?_update_self (Obj.mapSeq fun x => x.push Value.none) hS rfl
  refine wpAny_updateSeq hS₂ rfl ?_ (by decide) (by decide)
  have hS₃ := Heap.get?_update_self (Obj.mapSeq fun x => x.pop) hS₂ rfl
  refine wpAny_pure ⟨plainId_quiet F.plain_extend_loop { pos := [.ref S, .ref z, res] }, ?_⟩
  refine zl_loop (tp := tp) hh P res hn _ 0 _ #[] _ rfl (Nat.zero_le _) hS₃ ?_ hR
  exact L.frame (fun b o hb e => (Heap.get?_update_other _ (Obj.mapSeq fun x => x.pop) hb.symm).trans ((Heap.get?_update_other s.heap (Obj.mapSeq fun x => x.push Value.none) hb.symm).trans e)) P.s1 P.s2 P.s3 P.s4 P.s5 P.s6 P.s7 (fun b o e => (P.s8 b o e).1) fun o e => ⟨_, hS₃⟩
/-- list(z) -/
theorem call_list_zip {prog : Program} {w : World} {A : Around} {E : Value → Shared → Prop} {s : Shared} {tp : Bool} {z TI TO i1 i2 l1 l2 n0 : Nat} {xs ys : Array Value} {hb : Heap} {Q : Value → Shared → Prop} (hh : A.handled = none) (P : ZPl z TI TO i1 i2 l1 l2 s.heap.objs.size n0 hb) (hn : min xs.size ys.size ≤ sizeLine)
    (hz : IsZip s.heap z TI TO .none) (L : ZL tp z TI TO i1 i2 l1 l2 s.heap.objs.size n0 xs ys hb 0 #[] s.heap)
    (hR : ∀ (h' : Heap) (acc' : Array Value) (c' : Nat), h'.get? s.heap.objs.size = some { cls := .type "list", data := .seq acc' c' } → acc'.size = min xs.size ys.size →
      (∀ (j : Nat) (v : Value), acc'[j]? = some v → ∃ (T : Addr) (x y : Value), v = .ref T ∧ n0 ≤ T ∧ T ≠ s.heap.objs.size ∧ xs[j]? = some x ∧ ys[j]? = some y ∧ IsPair h' T x y) → (∀ (j k : Nat) (v : Value), acc'[j]? = some v → acc'[k]? = some v → j = k) →
      (∀ (b : Addr) (o : Obj), hb.get? b = some o → h'.get? b = some o) → Q (.ref s.heap.objs.size) { heap := h', gens := s.gens, drawn := s.drawn, toks := s.toks, os := s.os }) :
    wpAny (model prog w) A (PySem.call (.type "list") [.ref z]) Q E s := by
  refine callType_codes (Q₁ := fun obj s₁ => obj = .ref s.heap.objs.size ∧ s₁ = { heap := s.heap.push { cls := Value.type "list", data := Data.seq #[] }, gens := s.gens, drawn := s.drawn, toks := s.toks, os := s.os }) F.called_list (F.typeCall_list_1 (.ref z)) F.entry_list_init (code_list_new (.ref z) ⟨rfl, rfl⟩) fun obj s₁ h₁ => ?_
  obtain ⟨rfl, rfl⟩ := h₁
  have hS := Heap.get?_push_size s.heap (o := { cls := .type "list", data := .seq #[] }) rfl
  refine ⟨⟨_, hS, rfl⟩, F.args_list_init_2 _ _, ?_⟩
  have key : ∀ (c : Addr) (o : Obj), s.heap.get? c = some o → (s.heap.push { cls := Value.type "list", data := Data.seq #[] }).get? c = some o := fun c o e => Heap.get?_push_of_some _ e
  show wpAny _ _ (do
        let old ← Builtin.List.listItems _
        Builtin.List.listUpdate _ fun x => #[]
        letGo old.toList.reverse
        _) _ _ _
  refine wpAny_bind ?_
  refine wpAny_bind (wpAny_seqItems hS rfl (wpAny_pure ?_))
  show wpAny _ _ (updateSeq _ _ >>= _) _ _ _
  refine wpAny_bind (wpAny_updateSeq hS rfl ?_ (by decide) (by decide))
  have hS₂ := Heap.get?_update_self (Obj.mapSeq fun x => #[]) hS rfl
  refine wpAny_bind (wpAny_letGo ?_)
  have oth : ∀ (b : Addr) (o : Obj), b ≠ s.heap.objs.size → (s.heap.push { cls := Value.type "list", data := Data.seq #[] }).get? b = some o → ((s.heap.push { cls := Value.type "list", data := Data.seq #[] }).update s.heap.objs.size (Obj.mapSeq fun x => #[])).get? b = some o :=
    fun b o hb e => (Heap.get?_update_other _ (Obj.mapSeq fun x => #[]) hb.symm).trans e
  have L2 : ZL tp z TI TO i1 i2 l1 l2 s.heap.objs.size n0 xs ys hb 0 #[] (s.heap.push { cls := Value.type "list", data := Data.seq #[] }) :=
    L.frame (fun b o _ e => key b o e) P.s1 P.s2 P.s3 P.s4 P.s5 P.s6 P.s7 (fun b o e => (P.s8 b o e).1) fun o e => ⟨_, hS⟩
  have L3 := L2.frame oth P.s1 P.s2 P.s3 P.s4 P.s5 P.s6 P.s7 (fun b o e => (P.s8 b o e).1) fun o e => ⟨_, hS₂⟩
  exact zl_extend (A := A.in1) (tp := tp) (s := _) hh P .none hn _ hS₂ (oth _ _ P.s1 (key _ _ hz)) L3 fun h' acc' c' q1 q2 q3 q4 q5 => ⟨rfl, hR h' acc' c' q1 q2 q3 q4 q5⟩
end M
set_option Elab.async false
set_option linter.all false
set_option maxRecDepth 100000
set_option maxHeartbeats 4000000
namespace M
open PySem PySem.Spec PyProof.Rows L2
/-- many new objects -/
def putL (H : Hp) : List (Addr × HO) → Hp
  | [] => H
  | p :: r => upd (putL H r) p.1 p.2
theorem putL_off {H : Hp} : ∀ {ps : List (Addr × HO)} {a : Addr}, (∀ p ∈ ps, p.1 ≠ a) → putL H ps a = H a
  | [], _, _ => rfl
  | p :: r, a, h => by
    show upd (putL H r) p.1 p.2 a = H a
    rw [upd_ne (fun e => h p (List.mem_cons_self) e.symm)]
    exact putL_off fun q hq => h q (List.mem_cons_of_mem _ hq)
theorem putL_at {H : Hp} : ∀ {ps : List (Addr × HO)}, (ps.map (·.1)).Nodup → ∀ p ∈ ps, putL H ps p.1 = some p.2
  | p :: r, nd, q, hq => by
    rw [List.map_cons, List.nodup_cons] at nd
    rcases List.mem_cons.mp hq with rfl | hq
    · show upd (putL H r) q.1 q.2 q.1 = _
      rw [upd_same]
    · show upd (putL H r) p.1 p.2 q.1 = _
      have : q.1 ≠ p.1 := fun e => nd.1 (e ▸ List.mem_map_of_mem hq)
      rw [upd_ne this]
      exact putL_at nd.2 q hq
theorem putL_keep {H : Hp} {ps : List (Addr × HO)} (new : ∀ p ∈ ps, H p.1 = none) {a : Addr} {o : HO} (h : H a = some o) : putL H ps a = some o := by
  rw [putL_off fun p hp e => ?_, h]
  have := new p hp
  rw [e, h] at this
  cases this
theorem putL_cases {H : Hp} {ps : List (Addr × HO)} {a : Addr} : (∃ p ∈ ps, p.1 = a) ∨ putL H ps a = H a := by
  by_cases h : ∃ p ∈ ps, p.1 = a
  · exact .inl h
  · exact .inr (putL_off fun p hp e => h ⟨p, hp, e⟩)
section
variable {X : Cx} {pins : List (Addr × Obj)} {σ : L2.St} {H : Hp} {s : Shared} {h' : Heap}
theorem inv_many (I : L2.Inv X pins σ H s) {ps : List (Addr × HO)} (hk : ∀ (b : Addr) (o : Obj), s.heap.get? b = some o → h'.get? b = some o) (new : ∀ p ∈ ps, s.heap.objs.size ≤ p.1) (nd : (ps.map (·.1)).Nodup)
    (ok : ∀ p ∈ ps, ObjOk X.prog X.w (putL H ps) h' p.1 p.2) : L2.Inv X pins σ (putL H ps) { heap := h', gens := s.gens, drawn := s.drawn, toks := s.toks, os := s.os } := by
  have nH : ∀ p ∈ ps, H p.1 = none := fun p hp => HOk.fresh I.hok (new p hp)
  have kp : ∀ {b : Addr} {o : HO}, H b = some o → putL H ps b = some o := fun e => putL_keep nH e
  refine Inv.call' (ch := []) I rfl ⟨fun b o e _ _ _ => hk b o e, fun b o e _ _ _ => ⟨o.slots, hk b o e⟩, fun b o e n _ => ?_, fun b o e _ => ⟨o, hk b o e⟩, fun b xs e => kp e, fun b o u e => kp e, fun b q e => ⟨#[], by rw [Array.append_empty]; exact kp e⟩⟩ (fun b u q => ?_) I.bare fun b z => nomatch z
  · rw [putL_off fun p hp q => ?_]
    · exact n
    · have := new p hp
      rw [q] at this
      exact Nat.lt_irrefl _ (Nat.lt_of_lt_of_le (Heap.lt_size e) this)
  · rcases putL_cases (H := H) (ps := ps) (a := b) with ⟨p, hp, e⟩ | e
    · have := putL_at (H := H) nd p hp
      rw [e, q] at this
      cases this
      rw [← e]
      exact ok p hp
    · rw [e] at q
      exact ObjOk.stay (I.hok b u q) (fun d v _ y => hk d v y) (fun d y => kp y) fun d xs y => kp y
end

def refOf : Value → Addr
  | .ref a => a
  | _ => 0
def pairsT (ts : List Addr) (xs ys : List V) : List (Addr × HO) := (ts.zip (xs.zip ys)).map fun q => (q.1, .tup [q.2.1, q.2.2])
theorem pairsT_fst {ts : List Addr} {xs ys : List V} (h : ts.length ≤ min xs.length ys.length) : (pairsT ts xs ys).map (·.1) = ts := by
  unfold pairsT
  rw [List.map_map]
  show (ts.zip (xs.zip ys)).map Prod.fst = ts
  rw [List.map_fst_zip]
  rw [List.length_zip]; exact h
def tLz (K : PySem.W.Frag) (ta : TA) : TE := fun σ H Q => ta σ H fun vs H1 => ∃ (a b : Addr) (xs ys : List V), vs = [.ref a, .ref b] ∧ (SqL K H1 a xs ∧ SqL K H1 b ys ∨ SqT K H1 a xs ∧ SqT K H1 b ys) ∧
  ∀ (S : Addr) (ts : List Addr), (S :: ts).Nodup → (∀ t ∈ S :: ts, H1 t = none) → ts.length = min xs.length ys.length → Q (.ref S) (putL H1 ((S, .lst (ts.map .ref)) :: pairsT ts xs ys))
theorem vals_get : ∀ {vs : List V} {us : List Value} {j : Nat} {u : Value}, Vals vs us → us[j]? = some u → ∃ v, vs[j]? = some v ∧ L2.RelV v u
  | [], _, _, _, h, e => by cases h; simp at e
  | v :: vs, _, 0, u, h, e => by
    cases h with
    | cons r rr => simp only [List.getElem?_cons_zero, Option.some.injEq] at e; subst e; exact ⟨v, by simp, r⟩
  | v :: vs, _, j + 1, u, h, e => by
    cases h with
    | cons r rr =>
      simp only [List.getElem?_cons_succ] at e
      obtain ⟨v', e1, r1⟩ := vals_get rr e
      exact ⟨v', by simpa using e1, r1⟩
theorem plL {h : Heap} {a : Addr} {its : Array Value} (p : PlainL h a its) : h.IsList a its := let ⟨o, n, h1, h2, _, h3⟩ := p; ⟨o, h1, h2, n, h3⟩
theorem vals_refs : ∀ ts : List Addr, Vals (ts.map V.ref) (ts.map Value.ref)
  | [] => .nil
  | t :: ts => .cons rfl (vals_refs ts)
section
variable {X : Cx} {a b : Expr} {ta : TA} {p p1 pos pos1 : Pos}
theorem pe_lzipA (hc : X.calm = true) (hl : Gl X "list") (hml : X.mg "list" = none) (hz : Gl X "zip") (hmz : X.mg "zip" = none) (ha : PA X [a, b] ta) (hs : starEach [a, b] X.env = (false, eval a X.env) :: starEach [b] X.env) (hpl : ((backTo pos1 (starEach [b] X.env)).any fun x => x.1) = false) :
    PE X (.Call (.Name "list" p) [.Call (.Name "zip" p1) [a, b] [] pos1] [] pos) (tLz X.K ta) := by
  refine ⟨fun pins s σ H Q I h => ?_⟩
  refine Call_ (ld_blt I hl hml (by rfl) (PyProof.Rows.callWith_type1 ?_))
  refine Calls.spliced_cons ?_
  refine Call_ (ld_blt I hz hmz (by rfl) (PyProof.Rows.callWith_type1 (thn (ha.run pos1 pins s σ H _ I h) fun us s1 hq => ?_) hs hpl))
  obtain ⟨vs, H1, I1, r1, a', b', xs, ys, rfl, hk, q⟩ := hq
  cases r1 with
  | cons ra rr =>
    cases rr with
    | cons rb rn =>
      cases rn; cases ra; cases rb
      have hh : X.A.handled = none := I1.ok.hd hc
      have fin : ∀ (tp : Bool) (xi yi : List Value), Vals xs xi → Vals ys yi → xs.length ≤ sizeLine → (if tp = true then s1.heap.IsTuple a' xi.toArray ∧ s1.heap.IsTuple b' yi.toArray else s1.heap.IsList a' xi.toArray ∧ s1.heap.IsList b' yi.toArray) →
          ∀ h2 : Heap, IsZip h2 (s1.heap.objs.size + 4) (s1.heap.objs.size + 2) (s1.heap.objs.size + 3) .none → IsPair h2 (s1.heap.objs.size + 2) (.ref s1.heap.objs.size) (.ref (s1.heap.objs.size + 1)) → IsPair h2 (s1.heap.objs.size + 3) .none .none →
          (if tp = true then h2.IsTupleIter s1.heap.objs.size a' 0 ∧ h2.IsTupleIter (s1.heap.objs.size + 1) b' 0 else h2.IsListIter s1.heap.objs.size a' 0 ∧ h2.IsListIter (s1.heap.objs.size + 1) b' 0) →
          h2.objs.size = s1.heap.objs.size + 5 → (∀ (c : Addr) (o : Obj), s1.heap.get? c = some o → h2.get? c = some o) →
          wpAny (model X.prog X.w) X.A (spliced (backTo pos (starEach [] X.env))) (fun vs s₂ => wpAny (model X.prog X.w) X.A (PySem.call (.type "list") (.ref (s1.heap.objs.size + 4) :: vs)) (EP X pins σ Q) X.xe s₂) X.xe { heap := h2, gens := s1.gens, drawn := s1.drawn, toks := s1.toks, os := s1.os } := by
        intro tp xi yi vx vy hzx hl12 h2 z1 z2 z3 zi zs zk
        refine Calls.spliced_nil ?_
        have la : a' < s1.heap.objs.size := by
          split at hl12
          · obtain ⟨o, e, _⟩ := hl12.1; exact Heap.lt_size e
          · obtain ⟨o, e, _⟩ := hl12.1; exact Heap.lt_size e
        have lb : b' < s1.heap.objs.size := by
          split at hl12
          · obtain ⟨o, e, _⟩ := hl12.2; exact Heap.lt_size e
          · obtain ⟨o, e, _⟩ := hl12.2; exact Heap.lt_size e
        have big : ∀ {b : Addr} {o : Obj} (k : Nat), s1.heap.get? b = some o → b ≠ s1.heap.objs.size + k := fun {b o} k e => Nat.ne_of_lt (Nat.lt_of_lt_of_le (Heap.lt_size e) (Nat.le_add_right _ _))
        have P : ZPl (s1.heap.objs.size + 4) (s1.heap.objs.size + 2) (s1.heap.objs.size + 3) s1.heap.objs.size (s1.heap.objs.size + 1) a' b' h2.objs.size s1.heap.objs.size s1.heap := by
          have ne : ∀ {x : Nat} (k : Nat), x < s1.heap.objs.size → x ≠ s1.heap.objs.size + k := fun {x} k e => Nat.ne_of_lt (Nat.lt_of_lt_of_le e (Nat.le_add_right _ _))
          refine ⟨⟨by simp, by simp, by simp, by simp, by simp, by simp, by simp, by simp, by simp, by simp, ne 4 la, ne 3 la, ne 0 la, ne 1 la, ne 4 lb, ne 3 lb, ne 0 lb, ne 1 lb⟩, by rw [zs]; simp, by rw [zs]; simp, by rw [zs]; simp, by rw [zs]; simp, by rw [zs]; simp, by rw [zs]; exact ne 5 la, by rw [zs]; exact ne 5 lb, ?_, ?_, ?_⟩
          · intro b o e
            exact ⟨by rw [zs]; exact big 5 e, big 4 e, big 3 e, big 0 e, big 1 e⟩
          · exact Nat.le_add_right _ _
          · exact Nat.lt_succ_self _
        have L : ZL tp (s1.heap.objs.size + 4) (s1.heap.objs.size + 2) (s1.heap.objs.size + 3) s1.heap.objs.size (s1.heap.objs.size + 1) a' b' h2.objs.size s1.heap.objs.size xi.toArray yi.toArray s1.heap 0 #[] h2 := by
          refine ⟨rfl, ⟨z2, .inl ⟨z1, _, _, z3⟩⟩, ?_, ?_, fun j v e => by simp at e, fun j k v e => by simp at e, zk⟩
          · unfold M.It
            split
            · rename_i et; rw [if_pos et] at hl12 zi; exact ⟨zi.1, hl12.1.at fun o e => zk _ _ e⟩
            · rename_i et; rw [if_neg et] at hl12 zi; exact ⟨zi.1, hl12.1.at fun o e => zk _ _ e⟩
          · unfold M.It
            split
            · rename_i et; rw [if_pos et] at hl12 zi; exact ⟨zi.2, hl12.2.at fun o e => zk _ _ e⟩
            · rename_i et; rw [if_neg et] at hl12 zi; exact ⟨zi.2, hl12.2.at fun o e => zk _ _ e⟩
        have lx : xi.length = xs.length := vx.length.symm
        have ly : yi.length = ys.length := vy.length.symm
        have hmin : min xi.toArray.size yi.toArray.size = min xs.length ys.length := by rw [List.size_toArray, List.size_toArray, lx, ly]
        refine call_list_zip (tp := tp) (s := { heap := h2, gens := s1.gens, drawn := s1.drawn, toks := s1.toks, os := s1.os }) hh P (by rw [hmin]; exact Nat.le_trans (Nat.min_le_left _ _) hzx) z1 L fun h' acc c hS hsz hg hnd hko => ?_
        have hS : h'.get? h2.objs.size = some { cls := .type "list", data := .seq acc c } := hS
        have hsz' : acc.size = min xs.length ys.length := by rw [hsz, hmin]
        let ts : List Addr := acc.toList.map refOf
        have hts : ∀ (j : Nat) (t : Addr), ts[j]? = some t → ∃ (x y : Value), acc[j]? = some (.ref t) ∧ s1.heap.objs.size ≤ t ∧ t ≠ h2.objs.size ∧ xi[j]? = some x ∧ yi[j]? = some y ∧ IsPair h' t x y := fun j t e => by
          have e : (acc.toList.map refOf)[j]? = some t := e
          rw [List.getElem?_map] at e
          obtain ⟨v, ev, rfl⟩ := Option.map_eq_some_iff.mp e
          rw [Array.getElem?_toList] at ev
          obtain ⟨T, x, y, rfl, q1, q2, q3, q4, q5⟩ := hg j v ev
          exact ⟨x, y, ev, q1, q2, by simpa using q3, by simpa using q4, q5⟩
        have hacc : acc.toList = ts.map Value.ref := by
          apply List.ext_getElem?
          intro j
          show _ = ((acc.toList.map refOf).map Value.ref)[j]?
          rw [List.map_map, List.getElem?_map]
          cases e : acc.toList[j]? with
          | none => rfl
          | some v =>
            rw [Array.getElem?_toList] at e
            obtain ⟨T, x, y, rfl, _⟩ := hg j v e
            rfl
        have lts : ts.length = min xs.length ys.length := by
          show (acc.toList.map refOf).length = _
          rw [List.length_map, Array.length_toList, hsz']
        have ndT : ts.Nodup := by
          refine List.pairwise_iff_getElem.mpr fun j k hj hk hjk e => ?_
          have ej : ts[j]? = some ts[j] := by simp [hj]
          have ek : ts[k]? = some ts[j] := by rw [e]; simp [hk]
          obtain ⟨x, y, a1, _⟩ := hts j _ ej
          obtain ⟨x', y', a2, _⟩ := hts k _ ek
          exact absurd (hnd j k _ a1 a2) (Nat.ne_of_lt hjk)
        have hmem : ∀ t ∈ ts, s1.heap.objs.size ≤ t ∧ t ≠ h2.objs.size := fun t ht => by
          obtain ⟨j, e⟩ := List.getElem?_of_mem ht
          obtain ⟨x, y, _, q1, q2, _⟩ := hts j t e
          exact ⟨q1, q2⟩
        have nd : (h2.objs.size :: ts).Nodup := List.nodup_cons.mpr ⟨fun hm => (hmem _ hm).2 rfl, ndT⟩
        have low : ∀ t ∈ h2.objs.size :: ts, s1.heap.objs.size ≤ t := fun t ht => by
          rcases List.mem_cons.mp ht with rfl | ht
          · rw [zs]; exact Nat.le_add_right _ _
          · exact (hmem t ht).1
        have fst : ((h2.objs.size, HO.lst (ts.map .ref)) :: pairsT ts xs ys).map (·.1) = h2.objs.size :: ts := by
          rw [List.map_cons, pairsT_fst (by rw [lts]; exact Nat.le_refl _)]
        have pz : ∀ p ∈ pairsT ts xs ys, ∃ j t v u, p = (t, .tup [v, u]) ∧ ts[j]? = some t ∧ xs[j]? = some v ∧ ys[j]? = some u := fun p hp => by
          unfold pairsT at hp
          obtain ⟨q, hq, rfl⟩ := List.mem_map.mp hp
          obtain ⟨j, ej⟩ := List.getElem?_of_mem hq
          rw [List.getElem?_zip_eq_some, List.getElem?_zip_eq_some] at ej
          exact ⟨j, _, _, _, rfl, ej.1, ej.2.1, ej.2.2⟩
        refine ⟨.ref h2.objs.size, putL H1 ((h2.objs.size, .lst (ts.map .ref)) :: pairsT ts xs ys), ?_, rfl, q h2.objs.size ts nd (fun t ht => HOk.fresh I1.hok (low t ht)) lts⟩
        refine inv_many I1 hko (fun p hp => low p.1 (fst ▸ List.mem_map_of_mem hp)) (by rw [fst]; exact nd) fun p hp => ?_
        rcases List.mem_cons.mp hp with rfl | hp
        · simp only [ObjOk]
          refine ⟨by rw [List.length_map, lts]; exact Nat.le_trans (Nat.min_le_left _ _) hzx, ts.map .ref, c, vals_refs ts, ?_⟩
          rw [← hacc, Array.toArray_toList]; exact hS
        · obtain ⟨j, t, v, u, rfl, e1, e2, e3⟩ := pz p hp
          obtain ⟨x, y, _, _, _, q3, q4, q5⟩ := hts j t e1
          obtain ⟨v', e4, r1⟩ := vals_get vx q3
          obtain ⟨u', e5, r2⟩ := vals_get vy q4
          rw [e2] at e4; rw [e3] at e5
          cases e4; cases e5
          simp only [ObjOk]
          refine ⟨by show 2 ≤ sizeLine; decide, [x, y], .cons r1 (.cons r2 .nil), _, q5, rfl, 0, rfl⟩
      rcases hk with ⟨k1, k2⟩ | ⟨k1, k2⟩
      · obtain ⟨xi, vx, px, zx⟩ := I1.list k1
        obtain ⟨yi, vy, py, zy⟩ := I1.list k2
        refine call_zip_2 (plL px) (plL py) fun h2 z1 z2 z3 i1 i2 zs zk => ?_
        exact fin false xi yi vx vy zx ⟨(plL px), (plL py)⟩ h2 z1 z2 z3 ⟨i1, i2⟩ zs zk
      · obtain ⟨xi, vx, px, zx⟩ := I1.tuple k1
        obtain ⟨yi, vy, py, zy⟩ := I1.tuple k2
        refine RZ.call_zipT px py fun h2 z1 z2 z3 i1 i2 zs zk => ?_
        exact fin true xi yi vx vy zx ⟨px, py⟩ h2 z1 z2 z3 ⟨i1, i2⟩ zs zk
end

section
variable {X : Cx} {G : Gx} {B : Store} {W : WX} {a b : Expr} {fa fb : Env → Store → Out (D × Store)} {pos p p1 pos1 : Pos}
theorem grow_putL {H : Hp} {ps : List (Addr × HO)} (new : ∀ q ∈ ps, H q.1 = none) : Grow H (putL H ps) := fun _ _ h => putL_keep new h
theorem At.growPD {fr : Bool} {Ex : Addr → Prop} {φ : List Addr} {ρ : Env} {τ τ1 : Store} {d : D} {σ : L2.St} {H H1 : Hp} {Q : V → Hp → Prop} (h : At G B W (PD G fr) Ex φ ρ τ (.ok (d, τ1)) σ H Q) (g : Grow H H1) : At G B W (PD G fr) Ex φ ρ τ (.ok (d, τ1)) σ H1 Q :=
  ⟨h.1.grow g, fun φ' v H' st R p => h.2 φ' v H' ((Step.grow g).trans st) R (PD.back g.dom p)⟩
theorem zip_rep {L : Addr → Prop} {φ : List Addr} {H : Hp} : ∀ {ts : List Addr} {xs ys : List D} {vs us : List V}, RepL G L φ H xs vs → RepL G L φ H ys us → ts.length = min vs.length us.length →
    (∀ (j : Nat) (t : Addr) (v u : V), ts[j]? = some t → vs[j]? = some v → us[j]? = some u → H t = some (.tup [v, u])) → RepL G L φ H (zipD xs ys) (ts.map .ref)
  | ts, [], ys, vs, us, h1, h2, hl, _ => by
    have := h1.nil_iff.mp rfl
    subst this
    have : ts = [] := List.length_eq_zero_iff.mp (by rw [hl]; simp)
    subst this
    simp only [zipD, List.zip_nil_left, List.map_nil, RepL]
  | ts, x :: xs, [], vs, us, h1, h2, hl, _ => by
    have := h2.nil_iff.mp rfl
    subst this
    have : ts = [] := List.length_eq_zero_iff.mp (by rw [hl]; simp)
    subst this
    simp only [zipD, List.zip_nil_right, List.map_nil, RepL]
  | ts, x :: xs, y :: ys, vs, us, h1, h2, hl, ht => by
    simp only [RepL] at h1 h2
    obtain ⟨v, vs, rfl, rv, h1⟩ := h1
    obtain ⟨u, us, rfl, ru, h2⟩ := h2
    cases ts with
    | nil => simp at hl
    | cons t ts =>
      have ih := zip_rep h1 h2 (ts := ts) (by simp at hl; omega) fun j t' v' u' e1 e2 e3 => ht (j + 1) t' v' u' (by simpa using e1) (by simpa using e2) (by simpa using e3)
      have e : zipD (x :: xs) (y :: ys) = .tup [x, y] :: zipD xs ys := rfl
      rw [e, List.map_cons]
      simp only [RepL]
      refine ⟨_, _, rfl, ?_, ih⟩
      simp only [Rep, RepL]
      exact ⟨t, [v, u], rfl, SqT.of (ht 0 t v u (by simp) (by simp) (by simp)), v, [u], rfl, rv, u, [], rfl, ru, rfl⟩
theorem pe_lzipD (hG : G.K = X.K) (hc : X.calm = true) (hl : Gl X "list") (hml : X.mg "list" = none) (hz : Gl X "zip") (hmz : X.mg "zip" = none) (ha : PE X a (rd G B W fa)) (hb : PE X b (rd G B W fb)) (hs : starEach [a, b] X.env = (false, eval a X.env) :: starEach [b] X.env) (hs2 : starEach [b] X.env = (false, eval b X.env) :: starEach [] X.env) :
    PE X (.Call (.Name "list" p) [.Call (.Name "zip" p1) [a, b] [] pos1] [] pos) (rdF G B W fun ρ τ => (fa ρ τ).bind fun x => (fb ρ x.2).bind fun y => (ofO (zipF x.1 y.1)).bind fun zs => .ok (.lst zs, y.2)) := by
  have hp := pe_lzipA (p := p) (p1 := p1) (pos := pos) (pos1 := pos1) hc hl hml hz hmz (pa_cons ha (pa_cons hb pa_nil hs2) hs) hs (by rw [hs2]; rfl)
  refine PE.imp hp ?_
  rintro σ H Q ⟨Ex, φ, ρ, τ, h⟩
  refine ⟨Ex, φ, ρ, τ, (At.bind h PD.back).mono ?_⟩
  rintro v1 H1 ⟨d1, φ1, τ1, e1, st1, p1, h1⟩
  refine ⟨Ex, φ1, ρ, τ1, (At.bind h1 PD.back).mono ?_⟩
  rintro v2 H2 ⟨d2, φ2, τ2, e2, st2, p2, h2⟩
  have r1 := p1.1.step h1.1.sr st2
  have r2 := p2.1
  have fin : ∀ (l l2 : Addr) (xs ys : List D) (vs vs2 : List V), RepL G (Lv φ2 τ2 Ex) φ2 H2 xs vs → RepL G (Lv φ2 τ2 Ex) φ2 H2 ys vs2 → (SqL X.K H2 l vs ∧ SqL X.K H2 l2 vs2 ∨ SqT X.K H2 l vs ∧ SqT X.K H2 l2 vs2) → At G B W (PD G true) Ex φ2 ρ τ2 (.ok (.lst (zipD xs ys), τ2)) σ H2 Q →
      ∃ (a b : Addr) (xs ys : List V), [V.ref l, V.ref l2] = [.ref a, .ref b] ∧ (SqL X.K H2 a xs ∧ SqL X.K H2 b ys ∨ SqT X.K H2 a xs ∧ SqT X.K H2 b ys) ∧
        ∀ (S : Addr) (ts : List Addr), (S :: ts).Nodup → (∀ t ∈ S :: ts, H2 t = none) → ts.length = min xs.length ys.length → Q (.ref S) (putL H2 ((S, .lst (ts.map .ref)) :: pairsT ts xs ys)) := by
    intro l l2 xs ys vs vs2 rl rl2 hk h3
    refine ⟨l, l2, vs, vs2, rfl, hk, fun S ts nd new hl => ?_⟩
    rw [List.nodup_cons] at nd
    have fst := pairsT_fst (ts := ts) (xs := vs) (ys := vs2) (by rw [hl]; exact Nat.le_refl _)
    have newp : ∀ q ∈ pairsT ts vs vs2, H2 q.1 = none := fun q hq => new _ (List.mem_cons_of_mem _ (fst ▸ List.mem_map_of_mem hq))
    have g : Grow H2 (putL H2 (pairsT ts vs vs2)) := grow_putL newp
    have h4 := h3.growPD g
    refine At.op h4 (OpPost.newLst h4.1.lv (zip_rep (rl.grow g) (rl2.grow g) hl fun j t v u e1 e2 e3 => ?_) ?_)
    · have hm : (t, HO.tup [v, u]) ∈ pairsT ts vs vs2 := by
        unfold pairsT
        refine List.mem_map.mpr ⟨(t, v, u), ?_, rfl⟩
        refine List.mem_of_getElem? (i := j) ?_
        rw [List.getElem?_zip_eq_some, List.getElem?_zip_eq_some]
        exact ⟨e1, e2, e3⟩
      exact putL_at (by rw [fst]; exact nd.2) _ hm
    · rw [putL_off fun q hq e => ?_]
      · exact new S List.mem_cons_self
      · exact nd.1 (e ▸ fst ▸ List.mem_map_of_mem hq)
  cases d1 <;> cases d2 <;> simp only [zipF, ofO_none, Out.bind_stuck] at h2
  case tup.tup xs ys =>
    split at h2
    · simp only [ofO_some, Out.bind_ok] at h2
      simp only [Rep] at r1 r2
      obtain ⟨l, vs, rfl, hq, rl⟩ := r1
      obtain ⟨l2, vs2, rfl, hq2, rl2⟩ := r2
      exact fin l l2 xs ys vs vs2 rl rl2 (.inr ⟨hG ▸ hq, hG ▸ hq2⟩) h2
    · exact h2.2.elim
  case lst.lst xs ys =>
    split at h2
    · simp only [ofO_some, Out.bind_ok] at h2
      simp only [Rep] at r1 r2
      obtain ⟨l, vs, rfl, nl, hq, rl⟩ := r1
      obtain ⟨l2, vs2, rfl, nl2, hq2, rl2⟩ := r2
      exact fin l l2 xs ys vs vs2 rl rl2 (.inl ⟨.inl hq, .inl hq2⟩) h2
    · exact h2.2.elim
  all_goals exact h2.2.elim
end
end M
set_option Elab.async false
set_option linter.all false
set_option maxRecDepth 100000
set_option maxHeartbeats 4000000
namespace M
open PySem PySem.Spec PyProof.Rows L2
section
variable {X : Cx} {G : Gx} {B : Store} {W : WX} {a b : Expr} {fa fb : Env → Store → Out (D × Store)} {pos p p1 pos1 : Pos}
theorem pe_mm2F {id : String} {x : Str} {f : Int → Int → Int} (hr : CallR X (.builtin id) fun xs H Q => ∃ i j, xs = [.int i, .int j] ∧ Q (.int (f i j)) H) (hg : Gl X x) (hm : X.mg x = none) (hbt : bootBuiltins x = some (.builtin id)) (hn1 : x ≠ Str.ofString "__name__") (hn2 : (x == Str.ofString "__debug__") = false)
    (ha : PE X a (rd G B W fa)) (hb : PE X b (rd G B W fb)) (hs : starEach [a, b] X.env = (false, eval a X.env) :: starEach [b] X.env) (hs2 : starEach [b] X.env = (false, eval b X.env) :: starEach [] X.env) :
    PE X (.Call (.Name x p) [a, b] [] pos) (rd G B W fun ρ τ => (fa ρ τ).bind fun x => (fb ρ x.2).bind fun y => (match x.1, y.1 with
    | .int i, .int j => .ok (.int (f i j), y.2)
    | _, _ => .stuck)) := by
  refine PE.imp (pe_callB hr hg hm hbt (pa_cons ha (pa_cons hb pa_nil hs2) hs) hn1 hn2 hs (by rw [hs2]; rfl)) fun σ H Q h => ?_
  obtain ⟨Ex, φ, ρ, τ, h⟩ := h
  refine ⟨Ex, φ, ρ, τ, (At.bind h PD.back).mono ?_⟩
  rintro v1 H1 ⟨d1, φ1, τ1, e1, st1, p1, h1⟩
  refine ⟨Ex, φ1, ρ, τ1, (At.bind h1 PD.back).mono ?_⟩
  rintro v2 H2 ⟨d2, φ2, τ2, e2, st2, p2, h2⟩
  have r1 := p1.1.step h1.1.sr st2
  have r2 := p2.1
  cases d1 <;> cases d2 <;> simp only at h2
  case int.int i j =>
    simp only [Rep] at r1 r2
    exact ⟨i, j, by rw [r1, r2], At.op h2 OpPost.int⟩
  all_goals exact h2.2.elim
theorem pe_mm2D (hc : X.calm = true) {mx : Bool} {x : Str} (hx : x = if mx = true then Str.ofString "max" else Str.ofString "min") (hg : Gl X x) (hm : X.mg x = none) (ha : PE X a (rd G B W fa)) (hb : PE X b (rd G B W fb)) (hs : starEach [a, b] X.env = (false, eval a X.env) :: starEach [b] X.env) (hs2 : starEach [b] X.env = (false, eval b X.env) :: starEach [] X.env) :
    PE X (.Call (.Name x p) [a, b] [] pos) (rd G B W fun ρ τ => (fa ρ τ).bind fun x => (fb ρ x.2).bind fun y => (match x.1, y.1 with
    | .int i, .int j => .ok (.int (if mx = true then (if j > i then j else i) else if j < i then j else i), y.2)
    | _, _ => .stuck)) := by
  subst hx
  cases mx with
  | true => exact pe_mm2F (f := fun i j => if j > i then j else i) (call_max2 hc) hg hm (by rfl) (by decide) (by rfl) ha hb hs hs2
  | false => exact pe_mm2F (f := fun i j => if j < i then j else i) (call_min2 hc) hg hm (by rfl) (by decide) (by rfl) ha hb hs hs2
theorem pe_repD {k : Int} {j : Nat} {kp : Pos} (ha : PE X a (rdF G B W fa)) :
    PE X (.BinOp a .Mult (.Constant (.int k) j kp) pos) (rdF G B W fun ρ τ => (fa ρ τ).bind fun x => (match x.1 with
    | .lst xs => if bigI k = true ∧ xs.length * k.toNat ≤ 1000000 then .ok (.lst (List.replicate k.toNat xs).flatten, x.2) else .stuck
    | _ => .stuck)) := by
  refine PE.imp (pe_op op_rep ha pe_int) fun σ H Q h => ?_
  obtain ⟨Ex, φ, ρ, τ, h⟩ := h
  refine ⟨Ex, φ, ρ, τ, (At.bind h PD.back).mono ?_⟩
  rintro v1 H1 ⟨d1, φ1, τ1, e1, st1, p1, h1⟩
  cases d1 <;> simp only at h1
  case lst xs =>
    split at h1
    · rename_i hz
      obtain ⟨l, vs, rfl, nH, hv, s2, rl⟩ := p1.2 rfl xs rfl
      have z1 := rl.length
      have hbig := line_big
      have hk : -(2 ^ 62) ≤ k ∧ k < 2 ^ 62 := by
        have := hz.1
        unfold bigI at this
        simpa [Bool.and_eq_true] using this
      have rl0 : RepL G (Lv φ1 τ1 Ex) φ1 H1 xs vs := rl.weak fun a h => lv_mono a h
      exact ⟨l, k, vs, rfl, rfl, hv, by omega, by omega, by rw [← z1]; omega, fun q np => At.op h1 (OpPost.newLst h1.1.lv (rep_many rl0 k.toNat) np)⟩
    · exact h1.2.elim
  all_goals exact h1.2.elim
end
end M
set_option Elab.async false
set_option linter.all false
set_option maxRecDepth 100000
set_option maxHeartbeats 4000000
/-! A model text is a mini text: a check; what it asks of the place. -/
namespace M
open PySem PySem.Spec PyProof.Rows L2

structure CK where
  T : Nat → Option Def
  N : List Str
  free : List Str
  errs : List Str
  cons : List (Str × D)
def nst : Expr → Bool
  | .Starred .. => false
  | _ => true
def nsl : Expr → Bool
  | .Slice .. => false
  | _ => true
def nset : Expr → Bool
  | .Set .. => false
  | _ => true
def ncp : Expr → Bool
  | .ListComp .. => false
  | .SetComp .. => false
  | .DictComp .. => false
  | _ => true
def plT : Expr → Bool
  | .UnaryOp .. => false
  | .BoolOp .. => false
  | .IfExp .. => false
  | .Compare .. => false
  | _ => true
theorem plain_of {e : Expr} {env : PySem.Env} (h : plT e = true) : ∀ whole, isTrue e env whole = (do let v ← whole; standAt e.pos; holding [v] (truthy v)) := by
  intro whole
  cases e <;> first | rfl | cases h
def rcvL : Expr → Bool
  | .Name .. => true
  | .Subscript .. => true
  | .List .. => true
  | _ => false
def rcv : Expr → Bool
  | .Name .. => true
  | .Subscript .. => true
  | _ => false
theorem star_of {e : Expr} {es : List Expr} {env : PySem.Env} (h : nst e = true) : starEach (e :: es) env = (false, eval e env) :: starEach es env := by
  cases e <;> first | rfl | cases h
theorem stars_any {env : PySem.Env} {pos : Pos} : ∀ {es : List Expr}, es.all nst = true → (backTo pos (starEach es env)).any (·.1) = false := by
  intro es
  induction es with
  | nil => intro _; rfl
  | cons e es ih =>
    intro h
    rw [List.all_cons, Bool.and_eq_true] at h
    rw [star_of h.1]
    show (false || (backTo pos (starEach es env)).any (·.1)) = false
    rw [ih h.2]; rfl
theorem plainIx_of {b : Expr} (h : nsl b = true) : PlainIx b := by
  intro o i
  cases b <;> first | rfl | cases h
theorem folded_of {e : Expr} {env : PySem.Env} (h : nset e = true) : ∀ x, foldedSetIterable e env x = pure x := by
  intro x
  cases e <;> first | rfl | cases h
theorem marks_of {op : CmpOp} {b : Expr} (h : nset b = true) : behindInMarks op b = false := by
  cases b <;> first | rfl | cases h
theorem swaps_of {e : Expr} {t : Option Expr} {l : Nat} {env : PySem.Env} (h : ncp e = true) : swapsWith e t l env = pure false := by
  cases e <;> first | rfl | cases h
theorem baseL_of {e : Expr} {n : Str} {env : PySem.Env} {c : Sem Value} (h : rcvL e = true) : attributeBase e n env c = c := by
  cases e <;> first | rfl | cases h
theorem base_of {e : Expr} {n : Str} {env : PySem.Env} {c : Sem Value} (h : rcv e = true) : attributeBase e n env c = c := by
  cases e <;> first | rfl | cases h
/-! ### names -/
def okName (x : Str) : Bool := !(x == ("__debug__" : Str)) && !(x == ("__classdict__" : Str))
def visB (sc : Scope) (x : Str) : Bool := match sc.names.lookup x with
  | some .local => true
  | some .cell => true
  | some .free => true
  | _ => false
def locB (sc : Scope) (x : Str) : Bool := match sc.names.lookup x with
  | some .local => true
  | some .cell => true
  | _ => false
def gloB (sc : Scope) (x : Str) : Bool := match sc.names.lookup x with
  | some .globalImplicit => true
  | _ => false
theorem vis_of {sc : Scope} {x : Str} (h : visB sc x = true) : Vis sc x := by
  unfold visB at h
  split at h <;> first | exact .inl (by assumption) | exact .inr (.inl (by assumption)) | exact .inr (.inr (by assumption)) | cases h
theorem loc_of {sc : Scope} {x : Str} (h : locB sc x = true) : Loc sc x := by
  unfold locB at h
  split at h <;> first | exact .inl (by assumption) | exact .inr (by assumption) | cases h
theorem glo_of {X : Cx} {x : Str} (h : gloB X.env.scope x = true) : Gl X x := by
  unfold gloB at h
  split at h
  · assumption
  · cases h
def eqLit : D → D → Bool
  | .int a, .int b => decide (a = b)
  | .str a, .str b => decide (a = b)
  | .bl a, .bl b => decide (a = b)
  | .fn a, .fn b => decide (a = b)
  | .non, .non => true
  | _, _ => false
theorem eqLit_eq {a b : D} (h : eqLit a b = true) : a = b := by
  cases a <;> cases b <;> simp only [eqLit, decide_eq_true_eq] at h <;> first | rfl | (rw [h]) | cases h
def conB : D → Const → Bool
  | .int a, .int b => decide (a = b)
  | .str a, .str b => decide (a = b)
  | .bl a, .bool b => decide (a = b)
  | .non, .none => true
  | _, _ => false
/-! ### looks at a text -/
def vCC : Expr → Option (Str × Str × List Expr)
  | .Call (.Name x _) [.Call (.Name y _) es [] _] [] _ => some (x, y, es)
  | _ => none
theorem vCC_eq {e : Expr} {x y : Str} {es : List Expr} (h : vCC e = some (x, y, es)) : ∃ p1 p2 p3 p4, e = .Call (.Name x p1) [.Call (.Name y p2) es [] p3] [] p4 := by
  unfold vCC at h
  split at h
  · cases h; exact ⟨_, _, _, _, rfl⟩
  · cases h
def vC : Expr → Option (Str × List Expr)
  | .Call (.Name x _) es [] _ => some (x, es)
  | _ => none
theorem vC_eq {e : Expr} {x : Str} {es : List Expr} (h : vC e = some (x, es)) : ∃ p1 p2, e = .Call (.Name x p1) es [] p2 := by
  unfold vC at h
  split at h
  · cases h; exact ⟨_, _, rfl⟩
  · cases h
def vSR : Expr → Option (Str × Expr × Str)
  | .Call (.Name x _) [a'] [⟨some kn, .Constant (.bool true) _ _, _⟩] _ => some (x, a', kn)
  | _ => none
theorem vSR_eq {e a' : Expr} {x kn : Str} (h : vSR e = some (x, a', kn)) : ∃ p1 j p2 p3 p4, e = .Call (.Name x p1) [a'] [⟨some kn, .Constant (.bool true) j p2, p3⟩] p4 := by
  unfold vSR at h
  split at h
  · cases h; exact ⟨_, _, _, _, _, rfl⟩
  · cases h
structure Lc2V where
  elt : Expr
  tg : Expr
  iter : Expr
  ifs : List Expr
  tg1 : Expr
  iter1 : Expr
  ifs1 : List Expr
  scope : Scope
def vL2 : Expr → Option Lc2V
  | .ListComp elt [⟨tg, iter, ifs, 0⟩, ⟨tg1, iter1, ifs1, 0⟩] scope _ => some ⟨elt, tg, iter, ifs, tg1, iter1, ifs1, scope⟩
  | _ => none
theorem vL2_eq {e : Expr} {q : Lc2V} (h : vL2 e = some q) : ∃ p, e = .ListComp q.elt [⟨q.tg, q.iter, q.ifs, 0⟩, ⟨q.tg1, q.iter1, q.ifs1, 0⟩] q.scope p := by
  unfold vL2 at h
  split at h
  · cases h; exact ⟨_, rfl⟩
  · cases h
/-! ### the check -/
def isTup : Expr → Bool
  | .Tuple .. => true
  | _ => false
def isFr (C : CK) : MExpr → Bool
  | .bin .. => true
  | .slice .. => true
  | .lst .. => true
  | .lc .. => true
  | .blt .. => true
  | .lc2 .. => true
  | .sortR .. => true
  | .lrange .. => true
  | .lrange2 .. => true
  | .lzip .. => true
  | .rep .. => true
  | .call f _ => (match C.T f with
    | some d => d.fresh
    | none => false)
  | _ => false
def tgB (C : CK) (sc : Scope) (fn : Str → Bool) : MTgt → Expr → Bool
  | .n i, .Name x _ => decide (C.N[i]? = some x) && locB sc x && (fn x || decide (sc.names.lookup x = some .local))
  | .t is, .Tuple es _ _ => decide (is.length = es.length) && (is.zip es).all fun q => match q.2 with
    | .Name x _ => decide (C.N[q.1]? = some x) && locB sc x && (fn x || decide (sc.names.lookup x = some .local))
    | _ => false
  | _, _ => false
def tyB (sc : Scope) (t : Ty) : Expr → Bool
  | .Name x _ => decide (x = Str.ofString (tyS t)) && gloB sc x
  | _ => false
def frB (C : CK) (x : Str) : Bool := C.free.contains x
mutual
def chkE (C : CK) (sc : Scope) : MExpr → Expr → Bool
  | .var i, .Name x _ => decide (C.N[i]? = some x) && visB sc x && okName x
  | .con d, .Constant c _ _ => conB d c
  | .glob x d, .Name y _ => decide (x = y) && gloB sc x && okName x && (match C.cons.lookup x with
    | some d' => eqLit d' d
    | none => false)
  | .bin o a b, .BinOp a' op b' _ => decide (op = opO o) && chkE C sc a a' && chkE C sc b b'
  | .neg a, .UnaryOp .USub a' _ => chkE C sc a a'
  | .bnot a, .UnaryOp .Not a' _ => chkE C sc a a'
  | .cmp o a b, .Compare a' [op] [b'] _ => decide (op = cmpOp o) && chkE C sc a a' && chkE C sc b b' && nset b'
  | .cmp2 o p a b c, .Compare a' [op, op2] [b', c'] _ => decide (op = cmpOp o) && decide (op2 = cmpOp p) && chkE C sc a a' && chkE C sc b b' && chkE C sc c c' && nset c'
  | .band xs, .BoolOp .And es _ => chkB C sc xs es
  | .bor xs, .BoolOp .Or es _ => chkB C sc xs es
  | .ite t a b, .IfExp t' a' b' _ => chkE C sc t t' && chkE C sc a a' && chkE C sc b b'
  | .idx a i, .Subscript a' i' _ => chkE C sc a a' && chkE C sc i i' && nsl i'
  | .slice a lo hi, .Subscript a' (.Slice lo' hi' none _) _ => chkE C sc a a' && chkO C sc lo lo' && chkO C sc hi hi'
  | .tup xs, .Tuple es _ _ => chkA C sc xs es
  | .lst xs, .List es _ => chkA C sc xs es
  | .alloc e, e' => isFr C e && chkE C sc e e' && plT e'
  | .lc elt tg it ifs own, .ListComp elt' [⟨tg', iter', ifs', 0⟩] scope _ => blkC C.N sc scope own && (tgtIs tg).all (fun i => decide (i ∈ own.map (·.2))) &&
      tgB C (relS scope sc) (fun x => scope.names.lookup x == some .cell) tg tg' && chkI C sc tg' it iter' && chkC C (relS scope sc) ifs ifs' && chkE C (relS scope sc) elt elt' && nset iter'
  | .lc2 elt tg it ifs tg1 it1 ifs1 own vs1, e => (match vL2 e with
    | some q => blkC C.N sc q.scope own && (tgtIs tg).all (fun i => decide (i ∈ own.map (·.2))) && (tgtIs tg1).all (fun i => decide (i ∈ vs1)) && vs1.all (fun i => decide (i ∈ own.map (·.2))) &&
      tgB C (relS q.scope sc) (fun x => q.scope.names.lookup x == some .cell) tg q.tg && tgB C (relS q.scope sc) (fun x => q.scope.names.lookup x == some .cell) tg1 q.tg1 && chkI C sc q.tg it q.iter && chkC C (relS q.scope sc) ifs q.ifs && chkI C (relS q.scope sc) q.tg1 it1 q.iter1 && chkC C (relS q.scope sc) ifs1 q.ifs1 && chkE C (relS q.scope sc) elt q.elt && nset q.iter && nset q.iter1
    | none => false)
  | .call f xs, .Call (.Name x _) es [] _ => (match C.T f with
      | some d => decide (d.name = x) && decide (lenA xs = (d.N.take d.np).length)
      | none => false) && gloB sc x && okName x && chkA C sc xs es
  | .call f xs, .Call (.Name x _) [] (k :: ks) _ => (match C.T f with
      | some d => decide (d.name = x) && decide (lenA xs = (d.N.take d.np).length) && decide ((k :: ks).map (·.arg) = (d.N.take d.np).map some)
      | none => false) && gloB sc x && okName x && chkK C sc xs (k :: ks)
  | .callv i xs, .Call (.Name x _) es [] _ => decide (C.N[i]? = some x) && visB sc x && okName x && chkA C sc xs es && !es.isEmpty
  | .blt b a, .Call (.Name x _) [a'] [] _ => decide (x = bltName b) && gloB sc x && frB C x && chkE C sc a a' && nst a'
  | .isi a ts, .Call (.Name x _) [a', c'] [] _ => decide (x = Str.ofString "isinstance") && gloB sc x && frB C x && chkE C sc a a' && nst a' && (match ts, c' with
      | [t], .Name y _ => tyB sc t (.Name y ⟨0, 0, 0, 0⟩) && frB C y
      | ts, .Tuple es _ _ => decide (ts.length = es.length) && decide (ts.length ≤ 1000) && !ts.isEmpty && (ts.zip es).all fun q => tyB sc q.1 q.2 && frB C (Str.ofString (tyS q.1))
      | _, _ => false)
  | .mut m a b, .Call (.Attribute a' n ap) [b'] [] cp => decide (n = mutName m) && chkE C sc a a' && chkE C sc b b' && rcv a' && nst b' && (ap.endLine == cp.line)
  | .count a b, .Call (.Attribute a' n ap) [b'] [] cp => decide (n = Str.ofString "count") && chkE C sc a a' && chkE C sc b b' && rcvL a' && nst b' && (ap.endLine == cp.line)
  | .cmp3 o p q a b c d, .Compare a' [op, op2, op3] [b', c', d'] _ => decide (op = cmpOp o) && decide (op2 = cmpOp p) && decide (op3 = cmpOp q) && chkE C sc a a' && chkE C sc b b' && chkE C sc c c' && chkE C sc d d' && nset d'
  | .lenset a, e => (match vCC e with
    | some (x, y, [a']) => decide (x = Str.ofString "len") && gloB sc x && frB C x && decide (y = Str.ofString "set") && gloB sc y && frB C y && chkE C sc a a' && nst a'
    | _ => false)
  | .sortR a, e => (match vSR e with
    | some (x, a', kn) => decide (x = Str.ofString "sorted") && gloB sc x && frB C x && decide (kn = Str.ofString "reverse") && chkE C sc a a' && nst a'
    | none => false)
  | .lrange tp a, e => (match vCC e with
    | some (x, y, [a']) => decide (x = if tp = true then Str.ofString "tuple" else Str.ofString "list") && gloB sc x && frB C x && decide (y = Str.ofString "range") && gloB sc y && frB C y && chkE C sc a a' && nst a'
    | _ => false)
  | .lrange2 tp a b, e => (match vCC e with
    | some (x, y, [a', b']) => decide (x = if tp = true then Str.ofString "tuple" else Str.ofString "list") && gloB sc x && frB C x && decide (y = Str.ofString "range") && gloB sc y && frB C y && chkE C sc a a' && nst a' && chkE C sc b b' && nst b'
    | _ => false)
  | .lzip a b, e => (match vCC e with
    | some (x, y, [a', b']) => decide (x = Str.ofString "list") && gloB sc x && frB C x && decide (y = Str.ofString "zip") && gloB sc y && frB C y && chkE C sc a a' && nst a' && chkE C sc b b' && nst b'
    | _ => false)
  | .mm2 mx a b, e => (match vC e with
    | some (x, [a', b']) => decide (x = if mx = true then Str.ofString "max" else Str.ofString "min") && gloB sc x && frB C x && chkE C sc a a' && nst a' && chkE C sc b b' && nst b'
    | _ => false)
  | .rep a k, .BinOp a' .Mult (.Constant (.int j) _ _) _ => isFr C a && chkE C sc a a' && decide (j = k)
  | _, _ => false
def chkA (C : CK) (sc : Scope) : MArgs → List Expr → Bool
  | .nil, [] => true
  | .cons a r, e :: es => chkE C sc a e && nst e && chkA C sc r es
  | _, _ => false
def chkK (C : CK) (sc : Scope) : MArgs → List Keyword → Bool
  | .nil, [] => true
  | .cons a r, ⟨_, e, _⟩ :: ks => chkE C sc a e && chkK C sc r ks
  | _, _ => false
def chkB (C : CK) (sc : Scope) : MArgs → List Expr → Bool
  | .cons a .nil, [e] => chkE C sc a e
  | .cons a r, e :: e2 :: es => chkE C sc a e && chkB C sc r (e2 :: es)
  | _, _ => false
def chkO (C : CK) (sc : Scope) : MOpt → Option Expr → Bool
  | .none, none => true
  | .some e, some e' => chkE C sc e e'
  | _, _ => false
def chkC (C : CK) (sc : Scope) : MOpt → List Expr → Bool
  | .none, [] => true
  | .some e, [e'] => chkE C sc e e'
  | _, _ => false
def chkI (C : CK) (sc : Scope) (tg : Expr) : MIter → Expr → Bool
  | .over e, e' => chkE C sc e e'
  | .range1 a, .Call (.Name x _) [a'] [] _ => decide (x = Str.ofString "range") && gloB sc x && frB C x && chkE C sc a a' && nst a'
  | .range2 a b, .Call (.Name x _) [a', b'] [] _ => decide (x = Str.ofString "range") && gloB sc x && frB C x && chkE C sc a a' && chkE C sc b b' && nst a' && nst b'
  | .range3 a b c, .Call (.Name x _) [a', b', c'] [] _ => decide (x = Str.ofString "range") && gloB sc x && frB C x && chkE C sc a a' && chkE C sc b b' && chkE C sc c c' && nst a' && nst b' && nst c'
  | .zip a b, .Call (.Name x _) [a', b'] [] _ => decide (x = Str.ofString "zip") && gloB sc x && frB C x && chkE C sc a a' && chkE C sc b b' && nst a' && nst b' && isTup tg
  | .enum a, .Call (.Name x _) [a'] [] _ => decide (x = Str.ofString "enumerate") && gloB sc x && frB C x && chkE C sc a a' && nst a' && isTup tg
  | _, _ => false
def lenA : MArgs → Nat
  | .nil => 0
  | .cons _ r => lenA r + 1
end
end M
set_option Elab.async false
set_option linter.all false
set_option maxRecDepth 100000
set_option maxHeartbeats 8000000
/-! Expressions: what is checked means what it says. -/
namespace M
open PySem PySem.Spec PyProof.Rows L2
/-- where a text runs -/
structure Cok (X : Cx) (G : Gx) (W : WX) (C : CK) (sc : Scope) (fn : Str → Bool) (cl : Calls) : Prop where
  gk : G.K = X.K
  gm : G.mg = X.mg
  tk : Takes X W
  nd : X.N.Nodup
  nN : X.N = C.N
  sc : X.env.scope = sc
  fn : ∀ x, fn x = true → X.fn x = true
  calm : X.calm = true
  un : X.A.units + 65 < cLine
  free : ∀ x, x ∈ C.free → X.mg x = none
  fns : ∀ f d, C.T f = some d → FnAt X G d.fresh d.name (d.N.take d.np) (cl f)
  nm : ∀ f d, C.T f = some d → G.nm f = d.name
  ne : ∀ f ds τ, cl f ds τ ≠ .stuck → ∃ d, C.T f = some d ∧ ds.length = (d.N.take d.np).length
  errs : ∀ x, x ∈ C.errs → ErrAt X G x
  cons : ∀ x d, C.cons.lookup x = some d → ∃ v u, X.mg x = some u ∧ RelV v u ∧ ∀ L φ H, Rep G L φ H d v
theorem takes_noX {X : Cx} : Takes X noX := fun u s' ⟨a, B, sI, pins, σ, H, cls, d, e, I, nb, up, sky, na, os, ag, w⟩ => w.elim
section
variable {X : Cx} {G : Gx} {W : WX} {C : CK} {sc : Scope} {fn : Str → Bool} {cl : Calls} {B : Store}
theorem Cok.blk (k : Cok X G W C sc fn cl) (s : Shared) (H : Hp) (scope : Scope) (Cc : Addr) (cl' : List (Str × Addr)) (fp : List Addr) :
    Cok (X.blk s H scope (compEnvC scope cl' Cc X.env) fp) G noX C (relS scope sc) (fun x => scope.names.lookup x == some .cell) cl where
  gk := k.gk
  gm := k.gm
  tk := takes_noX
  nd := k.nd
  nN := k.nN
  sc := by show relS scope X.env.scope = _; rw [k.sc]
  fn := fun x h => h
  calm := k.calm
  un := k.un
  free := k.free
  fns := fun f d h => ⟨(k.fns f d h).at_⟩
  nm := k.nm
  ne := k.ne
  errs := fun x h => ⟨(k.errs x h).at_⟩
  cons := k.cons
theorem Cok.frB (k : Cok X G W C sc fn cl) {x : Str} (h : frB C x = true) : X.mg x = none := k.free x (by unfold M.frB at h; simpa using h)
theorem Cok.glo (k : Cok X G W C sc fn cl) {x : Str} (h : gloB sc x = true) : Gl X x := glo_of (by rw [k.sc]; exact h)
theorem okName_1 {x : Str} (h : okName x = true) : (x == ("__debug__" : Str)) = false ∧ (x == ("__classdict__" : Str)) = false := by
  unfold okName at h
  simpa [Bool.and_eq_true] using h
theorem conB_rep {X : Cx} {d : D} {c : Const} {j : Nat} {pos : Pos} (h : conB d c = true) : ∃ v, PE X (.Constant c j pos) (tC v) ∧ ∀ L φ H, Rep G L φ H d v := by
  cases d <;> cases c <;> simp only [conB, decide_eq_true_eq] at h
  all_goals first
    | exact absurd h (by decide)
    | (subst h; exact ⟨_, pe_int, fun _ _ _ => by simp only [Rep]⟩)
    | (subst h; exact ⟨_, pe_str, fun _ _ _ => by simp only [Rep]⟩)
    | (subst h; exact ⟨_, pe_bl, fun _ _ _ => by simp only [Rep]⟩)
    | exact ⟨_, pe_non, fun _ _ _ => by simp only [Rep]⟩
    | cases h
theorem tgB_ok (k : Cok X G W C sc fn cl) {t : MTgt} {e : Expr} (h : tgB C sc fn t e = true) : PG X e (tgtG X.K t) := by
  have one : ∀ {i : Nat} {x : Str} {p : Pos}, (decide (C.N[i]? = some x) && locB sc x && (fn x || decide (sc.names.lookup x = some .local))) = true → PG X (.Name x p) (gName i) := fun {i x p} h => by
    simp only [Bool.and_eq_true, decide_eq_true_eq, Bool.or_eq_true] at h
    obtain ⟨⟨h1, h2⟩, h3⟩ := h
    refine pg_name k.nd (by rw [k.nN]; exact h1) (loc_of (by rw [k.sc]; exact h2)) ?_
    rcases h3 with h3 | h3
    · exact .inl (k.fn x h3)
    · exact .inr (by rw [k.sc]; exact h3)
  cases t with
  | n i =>
    cases e <;> simp only [tgB] at h
    case Name x p => exact one h
    all_goals cases h
  | t is =>
    cases e <;> simp only [tgB] at h
    case Tuple es x1 p =>
      simp only [Bool.and_eq_true, decide_eq_true_eq] at h
      obtain ⟨hl, h⟩ := h
      have key : ∀ (is : List Nat) (es : List Expr), is.length = es.length → ((is.zip es).all fun q => match q.2 with
          | .Name x _ => decide (C.N[q.1]? = some x) && locB sc x && (fn x || decide (sc.names.lookup x = some .local))
          | _ => false) = true → PGs X es (gNames is) ∧ (assignEach es X.env).length = is.length ∧ (assignEach es X.env).findIdx? (·.1) = none := by
        intro is
        induction is with
        | nil =>
          intro es hl _
          cases es with
          | nil => exact ⟨pgs_nil, rfl, rfl⟩
          | cons => simp at hl
        | cons i is ih =>
          intro es hl h
          cases es with
          | nil => simp at hl
          | cons e es =>
            rw [List.zip_cons_cons, List.all_cons, Bool.and_eq_true] at h
            obtain ⟨h1, h2⟩ := h
            obtain ⟨k1, k2, k3⟩ := ih es (by simpa using hl) h2
            cases e <;> simp only at h1
            case Name x p =>
              refine ⟨pgs_cons (one h1) k1 (by rfl), ?_, ?_⟩
              · show (assignEach es X.env).length + 1 = is.length + 1
                rw [k2]
              · show List.findIdx? (·.1) ((false, assign (.Name x p) X.env) :: assignEach es X.env) = none
                rw [List.findIdx?_cons, k3]; rfl
            all_goals cases h1
      obtain ⟨k1, k2, k3⟩ := key is es hl h
      exact pg_tup k.calm k1 k2 k3
    all_goals cases h
theorem PT.of (hG : G.K = X.K) {e : Expr} {f : M.Env → Store → Out (D × Store)} (h : PE X e (rd G B W f)) (he : ∀ whole, isTrue e X.env whole = (do let v ← whole; standAt e.pos; holding [v] (truthy v))) : PE X e (rd G B W f) ∧ PT X e (rdT G B W (tst f)) := ⟨h, pt_truD hG h he⟩
abbrev G2 (X : Cx) (G : Gx) (B : Store) (W : WX) (C : CK) (cl : Calls) (m : MExpr) (e : Expr) : Prop :=
  PE X e (rd G B W (E cl B.length m)) ∧ PT X e (rdT G B W (tst (E cl B.length m))) ∧ (isFr C m = true → PE X e (rdF G B W (E cl B.length m)))
theorem g2_fr (hG : G.K = X.K) {m : MExpr} {e : Expr} (h : PE X e (rdF G B W (E cl B.length m))) (he : ∀ whole, isTrue e X.env whole = (do let v ← whole; standAt e.pos; holding [v] (truthy v))) : G2 X G B W C cl m e :=
  ⟨pe_F h, pt_truD hG (pe_F h) he, fun _ => h⟩
theorem g2_no (hG : G.K = X.K) {m : MExpr} {e : Expr} (h : PE X e (rd G B W (E cl B.length m))) (he : ∀ whole, isTrue e X.env whole = (do let v ← whole; standAt e.pos; holding [v] (truthy v))) (n : isFr C m = false) : G2 X G B W C cl m e :=
  ⟨h, pt_truD hG h he, fun z => by rw [n] at z; cases z⟩
theorem EA_len : ∀ (xs : MArgs) (ρ : M.Env) (τ : Store) (ds : List D) (τ' : Store), EA cl B.length xs ρ τ = .ok (ds, τ') → ds.length = lenA xs
  | .nil, ρ, τ, ds, τ', h => by
    simp only [EA, Out.ok.injEq, Prod.mk.injEq] at h
    rw [← h.1]; rfl
  | .cons a r, ρ, τ, ds, τ', h => by
    simp only [EA] at h
    cases e1 : E cl B.length a ρ τ with
    | stuck => rw [e1] at h; cases h
    | exc => rw [e1] at h; cases h
    | ok q =>
      simp only [e1, Out.bind_ok] at h
      cases e2 : EA cl B.length r ρ q.2 with
      | stuck => rw [e2] at h; cases h
      | exc => rw [e2] at h; cases h
      | ok q2 =>
        obtain ⟨ds2, τ2⟩ := q2
        simp only [e2, Out.bind_ok, Out.ok.injEq, Prod.mk.injEq] at h
        rw [← h.1, List.length_cons, EA_len r ρ q.2 ds2 τ2 e2]; rfl
theorem band {a b : Bool} (h : (a && b) = true) : a = true ∧ b = true := Bool.and_eq_true_iff.mp h
theorem tys_of (k : Cok X G W C sc fn cl) (one : ∀ {t : Ty} {y : Str} {p : Pos}, tyB sc t (.Name y p) = true → y = Str.ofString (tyS t) ∧ Gl X y) : ∀ (ts : List Ty) (es : List Expr), ts.length = es.length → ((ts.zip es).all fun q => tyB sc q.1 q.2 && frB C (Str.ofString (tyS q.1))) = true →
    ∃ qs : List (Ty × Pos), ts = qs.map (·.1) ∧ es = qs.map (fun q => Expr.Name (tyS q.1) q.2) ∧ ∀ q ∈ qs, Gl X (tyS q.1) ∧ X.mg (tyS q.1) = none
  | [], [], _, _ => ⟨[], rfl, rfl, fun _ z => nomatch z⟩
  | [], _ :: _, h, _ => by simp at h
  | _ :: _, [], h, _ => by simp at h
  | t :: ts, e :: es, hl, h => by
    rw [List.zip_cons_cons, List.all_cons, Bool.and_eq_true] at h
    obtain ⟨h1, h2⟩ := h
    obtain ⟨q1, q2⟩ := band h1
    obtain ⟨qs, e1, e2, e3⟩ := tys_of k one ts es (by simpa using hl) h2
    cases e
    case Name y p =>
      obtain ⟨ey, eg⟩ := one (t := t) q1
      dsimp only at q2
      subst ey
      refine ⟨(t, p) :: qs, by rw [e1]; rfl, by rw [e2]; rfl, fun q hq => ?_⟩
      rcases List.mem_cons.mp hq with rfl | hq
      · exact ⟨eg, k.frB q2⟩
      · exact e3 q hq
    all_goals (simp only [tyB] at q1; cases q1)
mutual
theorem sndE : ∀ (m : MExpr) (e : Expr) (X : Cx) (W : WX) (sc : Scope) (fn : Str → Bool) (B : Store), chkE C sc m e = true → Cok X G W C sc fn cl → G2 X G B W C cl m e
  | .var i, e, X, W, sc, fn, B, h, k => by
    cases e <;> simp only [chkE] at h
    case Name x p =>
      obtain ⟨h, h3⟩ := band h
      obtain ⟨h1, h2⟩ := band h
      obtain ⟨n1, n2⟩ := okName_1 h3
      refine g2_no k.gk ?_ (fun _ => rfl) rfl
      have := pe_varD (G := G) (B := B) (W := W) (pos := p) (by rw [k.nN]; exact of_decide_eq_true h1) (vis_of (by rw [k.sc]; exact h2)) n1 n2
      exact this
    all_goals cases h
  | .con d, e, X, W, sc, fn, B, h, k => by
    cases e <;> simp only [chkE] at h
    case Constant c j p =>
      obtain ⟨v, h1, h2⟩ := conB_rep (X := X) (j := j) (pos := p) h
      exact g2_no k.gk (pe_conD h1 h2) (fun _ => rfl) rfl
    all_goals cases h
  | .glob x d, e, X, W, sc, fn, B, h, k => by
    cases e <;> simp only [chkE] at h
    case Name y p =>
      obtain ⟨h, h4⟩ := band h
      obtain ⟨h, h3⟩ := band h
      obtain ⟨h1, h2⟩ := band h
      have h1 := of_decide_eq_true h1
      subst h1
      obtain ⟨n1, n2⟩ := okName_1 h3
      cases ec : C.cons.lookup x with
      | none => rw [ec] at h4; cases h4
      | some d' =>
        rw [ec] at h4
        have := eqLit_eq h4
        subst this
        obtain ⟨v, u, e1, r1, r2⟩ := k.cons x _ ec
        exact g2_no k.gk (pe_conD (pe_glob (k.glo h2) e1 r1 n1) r2) (fun _ => rfl) rfl
    all_goals cases h
  | .bin o a b, e, X, W, sc, fn, B, h, k => by
    cases e <;> simp only [chkE] at h
    case BinOp a' op b' p =>
      obtain ⟨h, h3⟩ := band h
      obtain ⟨h1, h2⟩ := band h
      have h1 := of_decide_eq_true h1
      subst h1
      exact g2_fr k.gk (pe_opD (f := fun _ _ => pure .none) (op_bin (G := G) k.gk o) (sndE a a' X W sc fn B h2 k).1 (sndE b b' X W sc fn B h3 k).1) (fun _ => rfl)
    all_goals cases h
  | .neg a, e, X, W, sc, fn, B, h, k => by
    cases e
    case UnaryOp op a' p =>
      cases op
      case USub =>
        simp only [chkE] at h
        exact g2_no k.gk (pe_negD (sndE a a' X W sc fn B h k).1) (fun _ => rfl) rfl
      all_goals (simp only [chkE] at h; cases h)
    all_goals (simp only [chkE] at h; cases h)
  | .bnot a, e, X, W, sc, fn, B, h, k => by
    cases e
    case UnaryOp op a' p =>
      cases op
      case Not =>
        simp only [chkE] at h
        have ih := sndE a a' X W sc fn B h k
        exact ⟨pe_notD k.gk ih.1, pt_notD ih.2.1, fun z => nomatch z⟩
      all_goals (simp only [chkE] at h; cases h)
    all_goals (simp only [chkE] at h; cases h)
  | .cmp o a b, e, X, W, sc, fn, B, h, k => by
    cases e
    case Compare a' ops cs p =>
      match ops, cs, h with
      | [op], [b'], h =>
        simp only [chkE] at h
        obtain ⟨h, h4⟩ := band h
        obtain ⟨h, h3⟩ := band h
        obtain ⟨h1, h2⟩ := band h
        have h1 := of_decide_eq_true h1
        subst h1
        have i1 := (sndE a a' X W sc fn B h2 k).1
        have i2 := (sndE b b' X W sc fn B h3 k).1
        have ho := op_cmp (G := G) k.gk k.un o
        exact ⟨pe_cmpD ho i1 i2 (marks_of h4), pt_cmpD ho i1 i2 (marks_of h4), fun z => nomatch z⟩
      | [], _, h => simp [chkE] at h
      | _ :: _ :: _, _, h => simp [chkE] at h
      | [_], [], h => simp [chkE] at h
      | [_], _ :: _ :: _, h => simp [chkE] at h
    all_goals (simp only [chkE] at h; cases h)
  | .cmp2 o p a b c, e, X, W, sc, fn, B, h, k => by
    cases e
    case Compare a' ops cs ps =>
      match ops, cs, h with
      | [op, op2], [b', c'], h =>
        simp only [chkE] at h
        obtain ⟨h, h6⟩ := band h
        obtain ⟨h, h5⟩ := band h
        obtain ⟨h, h4⟩ := band h
        obtain ⟨h, h3⟩ := band h
        obtain ⟨h1, h2⟩ := band h
        have h1 := of_decide_eq_true h1
        have h2 := of_decide_eq_true h2
        subst h1 h2
        have i1 := (sndE a a' X W sc fn B h3 k).1
        have i2 := (sndE b b' X W sc fn B h4 k).1
        have i3 := (sndE c c' X W sc fn B h5 k).1
        have ho := op_cmp (G := G) k.gk k.un o
        have hp := op_cmp (G := G) k.gk k.un p
        have hm : lastMarks [cmpOp o, cmpOp p] [b', c'] = false := by
          show behindInMarks (cmpOp p) c' = false
          exact marks_of h6
        exact ⟨pe_cmp2D ho hp i1 i2 i3 hm, pt_cmp2D ho hp i1 i2 i3 hm, fun z => nomatch z⟩
      | [], _, h => simp [chkE] at h
      | [_], _, h => simp [chkE] at h
      | _ :: _ :: _ :: _, _, h => simp [chkE] at h
      | [_, _], [], h => simp [chkE] at h
      | [_, _], [_], h => simp [chkE] at h
      | [_, _], _ :: _ :: _ :: _, h => simp [chkE] at h
    all_goals (simp only [chkE] at h; cases h)
  | .band xs, e, X, W, sc, fn, B, h, k => by
    cases e
    case BoolOp op es p =>
      cases op
      case And =>
        simp only [chkE] at h
        obtain ⟨i1, i2⟩ := sndAnd xs es X W sc fn B p h k
        exact ⟨i1, i2.pt, fun z => nomatch z⟩
      all_goals (simp only [chkE] at h; cases h)
    all_goals (simp only [chkE] at h; cases h)
  | .bor xs, e, X, W, sc, fn, B, h, k => by
    cases e
    case BoolOp op es p =>
      cases op
      case Or =>
        simp only [chkE] at h
        obtain ⟨i1, i2⟩ := sndOr xs es X W sc fn B p h k
        exact ⟨i1, i2.pt, fun z => nomatch z⟩
      all_goals (simp only [chkE] at h; cases h)
    all_goals (simp only [chkE] at h; cases h)
  | .ite t a b, e, X, W, sc, fn, B, h, k => by
    cases e <;> simp only [chkE] at h
    case IfExp t' a' b' p =>
      obtain ⟨h, h3⟩ := band h
      obtain ⟨h1, h2⟩ := band h
      have i0 := sndE t t' X W sc fn B h1 k
      have i1 := sndE a a' X W sc fn B h2 k
      have i2 := sndE b b' X W sc fn B h3 k
      exact ⟨pe_iteD i0.2.1 i1.1 i2.1, pt_iteD i0.2.1 i1.2.1 i2.2.1, fun z => nomatch z⟩
    all_goals cases h
  | .idx a i, e, X, W, sc, fn, B, h, k => by
    cases e
    case Subscript a' i' p =>
      simp only [chkE] at h
      obtain ⟨h, h3⟩ := band h
      obtain ⟨h1, h2⟩ := band h
      exact g2_no k.gk (pe_idxD k.gk (sndE a a' X W sc fn B h1 k).1 (sndE i i' X W sc fn B h2 k).1 (plainIx_of h3)) (fun _ => rfl) rfl
    all_goals (simp only [chkE] at h; cases h)
  | .slice a lo hi, e, X, W, sc, fn, B, h, k => by
    cases e
    case Subscript a' i' p =>
      cases i'
      case Slice lo' hi' st p2 =>
        cases st
        case none =>
          simp only [chkE] at h
          obtain ⟨h, h3⟩ := band h
          obtain ⟨h1, h2⟩ := band h
          exact g2_fr k.gk (pe_sliceD k.gk (sndE a a' X W sc fn B h1 k).1 (sndO lo lo' X W sc fn B h2 k) (sndO hi hi' X W sc fn B h3 k)) (fun _ => rfl)
        all_goals (simp only [chkE] at h; cases h)
      all_goals (simp only [chkE] at h; cases h)
    all_goals (simp only [chkE] at h; cases h)
  | .tup xs, e, X, W, sc, fn, B, h, k => by
    cases e <;> simp only [chkE] at h
    case Tuple es x1 p => exact g2_no k.gk (pe_tupD (sndA xs es X W sc fn B h k).1) (fun _ => rfl) rfl
    all_goals cases h
  | .lst xs, e, X, W, sc, fn, B, h, k => by
    cases e <;> simp only [chkE] at h
    case List es p => exact g2_fr k.gk (pe_lstD (sndA xs es X W sc fn B h k).1) (fun _ => rfl)
    all_goals cases h
  | .alloc a, e, X, W, sc, fn, B, h, k => by
    have h' : (isFr C a && chkE C sc a e && plT e) = true := by
      cases e <;> simpa only [chkE] using h
    obtain ⟨h', h3⟩ := band h'
    obtain ⟨h1, h2⟩ := band h'
    exact g2_no k.gk (pe_allocD ((sndE a e X W sc fn B h2 k).2.2 h1)) (plain_of h3) rfl
  | .lc elt tg it ifs own, e, X, W, sc, fn, B, h, k => by
    cases e
    case ListComp elt' gs scope p =>
      match gs, h with
      | [], h => simp [chkE] at h
      | _ :: _ :: _, h => simp [chkE] at h
      | [g], h =>
        obtain ⟨tg', iter', ifs', n⟩ := g
        have hn : n = 0 := by
          by_cases hn : n = 0
          · exact hn
          · exfalso
            unfold chkE at h
            split at h <;> first | exact hn rfl | cases h | simp_all
        subst hn
        skip
        simp only [chkE] at h
        obtain ⟨h, h7⟩ := band h
        obtain ⟨h, h6⟩ := band h
        obtain ⟨h, h5⟩ := band h
        obtain ⟨h, h4⟩ := band h
        obtain ⟨h, h3⟩ := band h
        obtain ⟨h1, h2⟩ := band h
        have ok : BlkOk X.N X.env.scope scope own := blkOk_by (by rw [k.nN, k.sc]; exact h1)
        have htg : ∀ i ∈ tgtIs tg, i ∈ own.map (·.2) := fun i hi => of_decide_eq_true (List.all_eq_true.mp h2 i hi)
        have hi := sndI it iter' X W sc fn B tg' h4 k
        refine g2_fr k.gk ?_ (fun _ => rfl)
        have hg : ∀ (s : Shared) (H : Hp) (Cc : Addr) (cl' : List (Str × Addr)) (fp : List Addr), PG (X.blk s H scope (compEnvC scope cl' Cc X.env) fp) tg' (tgtG X.K tg) := fun s H Cc cl' fp => tgB_ok (k.blk s H scope Cc cl' fp) h3
        have ht : ∀ (s : Shared) (H : Hp) (Cc : Addr) (cl' : List (Str × Addr)) (fp : List Addr), PTs (X.blk s H scope (compEnvC scope cl' Cc X.env) fp) ifs' (rdT G B noX (EC cl B.length ifs)) := fun s H Cc cl' fp => sndC ifs ifs' _ noX _ _ B h5 (k.blk s H scope Cc cl' fp)
        have he : ∀ (s : Shared) (H : Hp) (Cc : Addr) (cl' : List (Str × Addr)) (fp : List Addr), PE (X.blk s H scope (compEnvC scope cl' Cc X.env) fp) elt' (rd G B noX (E cl B.length elt)) := fun s H Cc cl' fp => (sndE elt elt' _ noX _ _ B h6 (k.blk s H scope Cc cl' fp)).1
        have hk := pe_lcD (B := B) (W := W) k.gk k.calm k.nd hi ok htg hg ht he
        exact (pe_lc (pos := p) k.calm k.nd hi ok hg ht he (folded_of h7)).imp hk
    all_goals (simp only [chkE] at h; cases h)
  | .call f xs, e, X, W, sc, fn, B, h, k => by
    cases e
    case Call fe es ks p =>
      cases fe
      case Name x p1 =>
        cases ks
        case nil =>
          simp only [chkE] at h
          obtain ⟨h, h4⟩ := band h
          obtain ⟨h, h3⟩ := band h
          obtain ⟨h1, h2⟩ := band h
          obtain ⟨n1, n2⟩ := okName_1 h3
          cases eT : C.T f with
          | none => rw [eT] at h1; cases h1
          | some d =>
            rw [eT] at h1
            obtain ⟨h1, h5⟩ := band h1
            have h1 := of_decide_eq_true h1
            have h5 := of_decide_eq_true h5
            subst h1
            have F := k.fns f d eT
            have ia := sndA xs es X W sc fn B h4 k
            have pe : PE X (.Call (.Name d.name p1) es [] p) (tG G B W (PD G d.fresh) (E cl B.length (.call f xs))) := by
              cases es with
              | nil =>
                cases xs with
                | nil =>
                  have e0 : d.N.take d.np = [] := by
                    have : (d.N.take d.np).length = 0 := h5.symm
                    exact List.length_eq_zero_iff.mp this
                  rw [e0] at F
                  exact pe_call0D k.tk F (k.glo h2) n1
                | cons _ _ => simp [chkA] at h4
              | cons e es =>
                exact pe_callD k.tk F (k.glo h2) n1 ia.1 (fun ρ τ ds τ' q => by rw [EA_len xs ρ τ ds τ' q, h5]) ⟨star_of (by
                  have := ia.2; rw [List.all_cons, Bool.and_eq_true] at this; exact this.1), stars_any (by
                  have := ia.2; rw [List.all_cons, Bool.and_eq_true] at this; exact this.2)⟩
            have pe0 : PE X (.Call (.Name d.name p1) es [] p) (rd G B W (E cl B.length (.call f xs))) := by
              cases ed : d.fresh with
              | false => rw [ed] at pe; exact pe
              | true => rw [ed] at pe; exact pe_F pe
            refine ⟨pe0, pt_truD k.gk pe0 (fun _ => rfl), fun z => ?_⟩
            simp only [isFr, eT] at z
            rw [z] at pe
            exact pe
        case cons k0 ks =>
          cases es with
          | cons => exact absurd h Bool.false_ne_true
          | nil =>
            simp only [chkE] at h
            obtain ⟨h, h4⟩ := band h
            obtain ⟨h, h3⟩ := band h
            obtain ⟨h1, h2⟩ := band h
            obtain ⟨n1, n2⟩ := okName_1 h3
            cases eT : C.T f with
            | none => rw [eT] at h1; cases h1
            | some d =>
              rw [eT] at h1
              obtain ⟨h1, h6⟩ := band h1
              obtain ⟨h1, h5⟩ := band h1
              have h1 := of_decide_eq_true h1
              have h5 := of_decide_eq_true h5
              have h6 := of_decide_eq_true h6
              subst h1
              have F := k.fns f d eT
              have ia := sndK xs (k0 :: ks) X W sc fn B h4 k
              have pe : PE X (.Call (.Name d.name p1) [] (k0 :: ks) p) (tG G B W (PD G d.fresh) (E cl B.length (.call f xs))) :=
                pe_callKD k.tk F (k.glo h2) n1 ia (fun ρ τ ds τ' q => by rw [EA_len xs ρ τ ds τ' q, h5]) h6
              have pe0 : PE X (.Call (.Name d.name p1) [] (k0 :: ks) p) (rd G B W (E cl B.length (.call f xs))) := by
                cases ed : d.fresh with
                | false => rw [ed] at pe; exact pe
                | true => rw [ed] at pe; exact pe_F pe
              refine ⟨pe0, pt_truD k.gk pe0 (fun _ => rfl), fun z => ?_⟩
              simp only [isFr, eT] at z
              rw [z] at pe
              exact pe
      all_goals (cases ks <;> cases es <;> exact absurd h Bool.false_ne_true)
    all_goals (simp only [chkE] at h; cases h)
  | .blt b a, e, X, W, sc, fn, B, h, k => by
    cases e
    case Call fe es ks p =>
      cases fe
      case Name x p1 =>
        cases ks
        case nil =>
          match es, h with
          | [a'], h =>
            simp only [chkE] at h
            obtain ⟨h, h5⟩ := band h
            obtain ⟨h, h4⟩ := band h
            obtain ⟨h, h3⟩ := band h
            obtain ⟨h1, h2⟩ := band h
            have h1 := of_decide_eq_true h1
            subst h1
            exact g2_fr k.gk (pe_bltD k.gk k.calm k.un b (k.glo h2) (k.frB h3) (sndE a a' X W sc fn B h4 k).1 (star_of h5)) (fun _ => rfl)
          | [], h => simp [chkE] at h
          | _ :: _ :: _, h => simp [chkE] at h
        all_goals (simp only [chkE] at h; cases h)
      all_goals (simp only [chkE] at h; cases h)
    all_goals (simp only [chkE] at h; cases h)
  | .isi a ts, e, X, W, sc, fn, B, h, k => by
    cases e
    case Call fe es ks p =>
      cases fe
      case Name x p1 =>
        cases ks
        case nil =>
          match es, h with
          | [a', c'], h =>
            simp only [chkE] at h
            obtain ⟨h, h6⟩ := band h
            obtain ⟨h, h5⟩ := band h
            obtain ⟨h, h4⟩ := band h
            obtain ⟨h, h3⟩ := band h
            obtain ⟨h1, h2⟩ := band h
            have h1 := of_decide_eq_true h1
            subst h1
            have ia := (sndE a a' X W sc fn B h4 k).1
            have tyOne : ∀ {t : Ty} {y : Str} {p : Pos}, tyB sc t (.Name y p) = true → y = Str.ofString (tyS t) ∧ Gl X y := fun {t y p} z => by
              simp only [tyB, Bool.and_eq_true, decide_eq_true_eq] at z
              exact ⟨z.1, k.glo z.2⟩
            have many : ∀ (es' : List Expr) (kk : Nat) (py : Pos), c' = .Tuple es' kk py → (decide (ts.length = es'.length) && decide (ts.length ≤ 1000) && !ts.isEmpty && (ts.zip es').all fun q => tyB sc q.1 q.2 && frB C (Str.ofString (tyS q.1))) = true → G2 X G B W C cl (.isi a ts) (.Call (.Name "isinstance" p1) [a', c'] [] p) := by
              intro es' kk py ec g6
              subst ec
              obtain ⟨g6, q4⟩ := band g6
              obtain ⟨g6, q3⟩ := band g6
              obtain ⟨q1, q2⟩ := band g6
              have q1 := of_decide_eq_true q1
              have q2 := of_decide_eq_true q2
              obtain ⟨qs, eq1, eq2, eq3⟩ : ∃ qs : List (Ty × Pos), ts = qs.map (·.1) ∧ es' = qs.map (fun q => Expr.Name (tyS q.1) q.2) ∧ ∀ q ∈ qs, Gl X (tyS q.1) ∧ X.mg (tyS q.1) = none := tys_of k tyOne ts es' q1 q4
              subst eq1 eq2
              refine g2_no k.gk (pe_isiN k.gk qs (fun z => ?_) (by rw [List.length_map] at q2; exact q2) (k.glo h2) (k.frB h3) ia eq3 (star_of h5)) (fun _ => rfl) rfl
              rw [z] at q3; cases q3
            cases c'
            case Tuple es' kk py => exact many es' kk py rfl (by cases ts with | nil => exact h6 | cons t ts => cases ts <;> exact h6)
            case Name y py =>
              match ts, h6 with
              | [], h6 => exact absurd h6 Bool.false_ne_true
              | _ :: _ :: _, h6 => exact absurd h6 Bool.false_ne_true
              | [t], h6 =>
                obtain ⟨q1, q2⟩ := band h6
                obtain ⟨e1, e2⟩ := tyOne q1
                subst e1
                exact g2_no k.gk (pe_isi1 k.gk t (k.glo h2) (k.frB h3) ia e2 (k.frB q2) (star_of h5)) (fun _ => rfl) rfl
            all_goals (cases ts with | nil => exact absurd h6 Bool.false_ne_true | cons t ts => cases ts <;> exact absurd h6 Bool.false_ne_true)
          | [], h => simp [chkE] at h
          | [_], h => simp [chkE] at h
          | _ :: _ :: _ :: _, h => simp [chkE] at h
        all_goals (simp only [chkE] at h; cases h)
      all_goals (simp only [chkE] at h; cases h)
    all_goals (simp only [chkE] at h; cases h)
  | .mut m a b, e, X, W, sc, fn, B, h, k => by
    cases e
    case Call fe es ks p =>
      cases fe
      case Attribute a' n ap =>
        cases ks
        case nil =>
          match es, h with
          | [b'], h =>
            simp only [chkE] at h
            obtain ⟨h, h6⟩ := band h
            obtain ⟨h, h5⟩ := band h
            obtain ⟨h, h4⟩ := band h
            obtain ⟨h, h3⟩ := band h
            obtain ⟨h1, h2⟩ := band h
            have h1 := of_decide_eq_true h1
            subst h1
            exact g2_no k.gk (pe_mutD m (sndE a a' X W sc fn B h2 k).1 (sndE b b' X W sc fn B h3 k).1 (base_of h4) (star_of h5) h6) (fun _ => rfl) rfl
          | [], h => simp [chkE] at h
          | _ :: _ :: _, h => simp [chkE] at h
        all_goals (simp only [chkE] at h; cases h)
      all_goals (simp only [chkE] at h; cases h)
    all_goals (simp only [chkE] at h; cases h)
  | .count a b, e, X, W, sc, fn, B, h, k => by
    cases e
    case Call fe es ks p =>
      cases fe
      case Attribute a' n ap =>
        cases ks
        case nil =>
          match es, h with
          | [b'], h =>
            simp only [chkE] at h
            obtain ⟨h, h6⟩ := band h
            obtain ⟨h, h5⟩ := band h
            obtain ⟨h, h4⟩ := band h
            obtain ⟨h, h3⟩ := band h
            obtain ⟨h1, h2⟩ := band h
            have h1 := of_decide_eq_true h1
            subst h1
            exact g2_no k.gk (pe_countD k.un k.gk (sndE a a' X W sc fn B h2 k).1 (sndE b b' X W sc fn B h3 k).1 (baseL_of h4) (star_of h5) h6) (fun _ => rfl) rfl
          | [], h => simp [chkE] at h
          | _ :: _ :: _, h => simp [chkE] at h
        all_goals (simp only [chkE] at h; cases h)
      all_goals (simp only [chkE] at h; cases h)
    all_goals (simp only [chkE] at h; cases h)
  | .cmp3 o p q a b c d, e, X, W, sc, fn, B, h, k => by
    cases e
    case Compare a' ops cs ps =>
      match ops, cs, h with
      | [op, op2, op3], [b', c', d'], h =>
        simp only [chkE] at h
        obtain ⟨h, h8⟩ := band h
        obtain ⟨h, h7⟩ := band h
        obtain ⟨h, h6⟩ := band h
        obtain ⟨h, h5⟩ := band h
        obtain ⟨h, h4⟩ := band h
        obtain ⟨h, h3⟩ := band h
        obtain ⟨h1, h2⟩ := band h
        have h1 := of_decide_eq_true h1
        have h2 := of_decide_eq_true h2
        have h3 := of_decide_eq_true h3
        subst h1 h2 h3
        have i1 := (sndE a a' X W sc fn B h4 k).1
        have i2 := (sndE b b' X W sc fn B h5 k).1
        have i3 := (sndE c c' X W sc fn B h6 k).1
        have i4 := (sndE d d' X W sc fn B h7 k).1
        have ho := op_cmp (G := G) k.gk k.un o
        have hp := op_cmp (G := G) k.gk k.un p
        have hq := op_cmp (G := G) k.gk k.un q
        have hm : lastMarks [cmpOp o, cmpOp p, cmpOp q] [b', c', d'] = false := by
          show behindInMarks (cmpOp q) d' = false
          exact marks_of h8
        exact ⟨pe_cmp3D ho hp hq i1 i2 i3 i4 hm, pt_cmp3D ho hp hq i1 i2 i3 i4 hm, fun z => nomatch z⟩
      | [], _, h => simp [chkE] at h
      | [_], _, h => simp [chkE] at h
      | [_, _], _, h => simp [chkE] at h
      | _ :: _ :: _ :: _ :: _, _, h => simp [chkE] at h
      | [_, _, _], [], h => simp [chkE] at h
      | [_, _, _], [_], h => simp [chkE] at h
      | [_, _, _], [_, _], h => simp [chkE] at h
      | [_, _, _], _ :: _ :: _ :: _ :: _, h => simp [chkE] at h
    all_goals (simp only [chkE] at h; cases h)
  | .lenset a, e, X, W, sc, fn, B, h, k => by
    simp only [chkE] at h
    cases ev : vCC e with
    | none => rw [ev] at h; exact absurd h Bool.false_ne_true
    | some q =>
    obtain ⟨x, y, es⟩ := q
    rw [ev] at h
    match es, h, ev with
    | [a'], h, ev =>
      obtain ⟨p1, p2, p3, p4, rfl⟩ := vCC_eq ev
      dsimp only at h
      obtain ⟨h, h8⟩ := band h
      obtain ⟨h, h7⟩ := band h
      obtain ⟨h, h6⟩ := band h
      obtain ⟨h, h5⟩ := band h
      obtain ⟨h, h4⟩ := band h
      obtain ⟨h, h3⟩ := band h
      obtain ⟨h1, h2⟩ := band h
      have h1 := of_decide_eq_true h1
      have h4 := of_decide_eq_true h4
      subst h1 h4
      exact g2_no k.gk (pe_lensetD k.gk k.calm (k.glo h2) (k.frB h3) (k.glo h5) (k.frB h6) (sndE a a' X W sc fn B h7 k).1 (star_of h8)) (fun _ => rfl) rfl
    | [], h, _ => exact absurd h Bool.false_ne_true
    | _ :: _ :: _, h, _ => exact absurd h Bool.false_ne_true
  | .lrange tp a, e, X, W, sc, fn, B, h, k => by
    simp only [chkE] at h
    cases ev : vCC e with
    | none => rw [ev] at h; exact absurd h Bool.false_ne_true
    | some q =>
    obtain ⟨x, y, es⟩ := q
    rw [ev] at h
    match es, h, ev with
    | [a'], h, ev =>
      obtain ⟨p1, p2, p3, p4, rfl⟩ := vCC_eq ev
      dsimp only at h
      obtain ⟨h, h8⟩ := band h
      obtain ⟨h, h7⟩ := band h
      obtain ⟨h, h6⟩ := band h
      obtain ⟨h, h5⟩ := band h
      obtain ⟨h, h4⟩ := band h
      obtain ⟨h, h3⟩ := band h
      obtain ⟨h1, h2⟩ := band h
      have h1 := of_decide_eq_true h1
      have h4 := of_decide_eq_true h4
      subst h1 h4
      exact g2_fr k.gk (pe_lrange1D k.calm (k.glo h5) (k.frB h6) (k.glo h2) (k.frB h3) (sndE a a' X W sc fn B h7 k).1 (star_of h8)) (fun _ => rfl)
    | [], h, _ => exact absurd h Bool.false_ne_true
    | _ :: _ :: _, h, _ => exact absurd h Bool.false_ne_true
  | .lrange2 tp a b, e, X, W, sc, fn, B, h, k => by
    simp only [chkE] at h
    cases ev : vCC e with
    | none => rw [ev] at h; exact absurd h Bool.false_ne_true
    | some q =>
    obtain ⟨x, y, es⟩ := q
    rw [ev] at h
    match es, h, ev with
    | [a', b'], h, ev =>
      obtain ⟨p1, p2, p3, p4, rfl⟩ := vCC_eq ev
      dsimp only at h
      obtain ⟨h, h10⟩ := band h
      obtain ⟨h, h9⟩ := band h
      obtain ⟨h, h8⟩ := band h
      obtain ⟨h, h7⟩ := band h
      obtain ⟨h, h6⟩ := band h
      obtain ⟨h, h5⟩ := band h
      obtain ⟨h, h4⟩ := band h
      obtain ⟨h, h3⟩ := band h
      obtain ⟨h1, h2⟩ := band h
      have h1 := of_decide_eq_true h1
      have h4 := of_decide_eq_true h4
      subst h1 h4
      exact g2_fr k.gk (pe_lrange2D k.calm (k.glo h5) (k.frB h6) (k.glo h2) (k.frB h3) (sndE a a' X W sc fn B h7 k).1 (sndE b b' X W sc fn B h9 k).1 (star_of h8) (star_of h10)) (fun _ => rfl)
    | [], h, _ => exact absurd h Bool.false_ne_true
    | [_], h, _ => exact absurd h Bool.false_ne_true
    | _ :: _ :: _ :: _, h, _ => exact absurd h Bool.false_ne_true
  | .lzip a b, e, X, W, sc, fn, B, h, k => by
    simp only [chkE] at h
    cases ev : vCC e with
    | none => rw [ev] at h; exact absurd h Bool.false_ne_true
    | some q =>
    obtain ⟨x, y, es⟩ := q
    rw [ev] at h
    match es, h, ev with
    | [a', b'], h, ev =>
      obtain ⟨p1, p2, p3, p4, rfl⟩ := vCC_eq ev
      dsimp only at h
      obtain ⟨h, h10⟩ := band h
      obtain ⟨h, h9⟩ := band h
      obtain ⟨h, h8⟩ := band h
      obtain ⟨h, h7⟩ := band h
      obtain ⟨h, h6⟩ := band h
      obtain ⟨h, h5⟩ := band h
      obtain ⟨h, h4⟩ := band h
      obtain ⟨h, h3⟩ := band h
      obtain ⟨h1, h2⟩ := band h
      have h1 := of_decide_eq_true h1
      have h4 := of_decide_eq_true h4
      subst h1 h4
      exact g2_fr k.gk (pe_lzipD k.gk k.calm (k.glo h2) (k.frB h3) (k.glo h5) (k.frB h6) (sndE a a' X W sc fn B h7 k).1 (sndE b b' X W sc fn B h9 k).1 (star_of h8) (star_of h10)) (fun _ => rfl)
    | [], h, _ => exact absurd h Bool.false_ne_true
    | [_], h, _ => exact absurd h Bool.false_ne_true
    | _ :: _ :: _ :: _, h, _ => exact absurd h Bool.false_ne_true
  | .sortR a, e, X, W, sc, fn, B, h, k => by
    simp only [chkE] at h
    cases ev : vSR e with
    | none => rw [ev] at h; exact absurd h Bool.false_ne_true
    | some q =>
    obtain ⟨x, a', kn⟩ := q
    rw [ev] at h
    obtain ⟨p1, j, p2, p3, p4, rfl⟩ := vSR_eq ev
    dsimp only at h
    obtain ⟨h, h6⟩ := band h
    obtain ⟨h, h5⟩ := band h
    obtain ⟨h, h4⟩ := band h
    obtain ⟨h, h3⟩ := band h
    obtain ⟨h1, h2⟩ := band h
    have h1 := of_decide_eq_true h1
    have h4 := of_decide_eq_true h4
    subst h1 h4
    exact g2_fr k.gk (pe_sortRD k.gk k.un (k.glo h2) (k.frB h3) (sndE a a' X W sc fn B h5 k).1 (star_of h6)) (fun _ => rfl)
  | .mm2 mx a b, e, X, W, sc, fn, B, h, k => by
    simp only [chkE] at h
    cases ev : vC e with
    | none => rw [ev] at h; exact absurd h Bool.false_ne_true
    | some q =>
    obtain ⟨x, es⟩ := q
    rw [ev] at h
    match es, h, ev with
    | [a', b'], h, ev =>
      obtain ⟨p1, p2, rfl⟩ := vC_eq ev
      dsimp only at h
      obtain ⟨h, h7⟩ := band h
      obtain ⟨h, h6⟩ := band h
      obtain ⟨h, h5⟩ := band h
      obtain ⟨h, h4⟩ := band h
      obtain ⟨h, h3⟩ := band h
      obtain ⟨h1, h2⟩ := band h
      exact g2_no k.gk (pe_mm2D k.calm (of_decide_eq_true h1) (k.glo h2) (k.frB h3) (sndE a a' X W sc fn B h4 k).1 (sndE b b' X W sc fn B h6 k).1 (star_of h5) (star_of h7)) (fun _ => rfl) rfl
    | [], h, _ => exact absurd h Bool.false_ne_true
    | [_], h, _ => exact absurd h Bool.false_ne_true
    | _ :: _ :: _ :: _, h, _ => exact absurd h Bool.false_ne_true
  | .rep a i, e, X, W, sc, fn, B, h, k => by
    cases e
    case BinOp a' op b' p =>
      cases op
      case Mult =>
        cases b'
        case Constant c j cp =>
          cases c
          case int z =>
            simp only [chkE] at h
            obtain ⟨h, h3⟩ := band h
            obtain ⟨h1, h2⟩ := band h
            have h3 := of_decide_eq_true h3
            subst h3
            exact g2_fr k.gk (pe_repD ((sndE a a' X W sc fn B h2 k).2.2 h1)) (fun _ => rfl)
          all_goals (exact absurd h Bool.false_ne_true)
        all_goals (exact absurd h Bool.false_ne_true)
      all_goals (exact absurd h Bool.false_ne_true)
    all_goals (exact absurd h Bool.false_ne_true)
  | .callv i xs, e, X, W, sc, fn, B, h, k => by
    cases e
    case Call fe es ks p =>
      cases fe
      case Name x p1 =>
        cases ks
        case nil =>
          simp only [chkE] at h
          obtain ⟨h, h5⟩ := band h
          obtain ⟨h, h4⟩ := band h
          obtain ⟨h, h3⟩ := band h
          obtain ⟨h1, h2⟩ := band h
          obtain ⟨n1, n2⟩ := okName_1 h3
          cases es with
          | nil => cases h5
          | cons e es =>
            have ia := sndA xs (e :: es) X W sc fn B h4 k
            have ia2 := ia.2
            rw [List.all_cons, Bool.and_eq_true] at ia2
            refine g2_no k.gk (pe_callvD k.tk (by rw [k.nN]; exact of_decide_eq_true h1) (vis_of (by rw [k.sc]; exact h2)) n1 n2 (fun f ds τ hne => ?_) k.gm ia.1 ⟨star_of ia2.1, stars_any ia2.2⟩) (fun _ => rfl) rfl
            obtain ⟨d, eT, el⟩ := k.ne f ds τ hne
            exact ⟨d.fresh, _, el, (k.nm f d eT) ▸ k.fns f d eT⟩
        all_goals (exact absurd h Bool.false_ne_true)
      all_goals (exact absurd h Bool.false_ne_true)
    all_goals (exact absurd h Bool.false_ne_true)
  | .lc2 elt tg it ifs tg1 it1 ifs1 own vs1, e, X, W, sc, fn, B, h, k => by
    simp only [chkE] at h
    cases ev : vL2 e with
    | none => rw [ev] at h; exact absurd h Bool.false_ne_true
    | some q =>
    rw [ev] at h
    obtain ⟨p, rfl⟩ := vL2_eq ev
    obtain ⟨elt', tg', iter', ifs', tg1', iter1', ifs1', scope⟩ := q
    dsimp only at h
    obtain ⟨h, h13⟩ := band h
    obtain ⟨h, h12⟩ := band h
    obtain ⟨h, h11⟩ := band h
    obtain ⟨h, h10⟩ := band h
    obtain ⟨h, h9⟩ := band h
    obtain ⟨h, h8⟩ := band h
    obtain ⟨h, h7⟩ := band h
    obtain ⟨h, h6⟩ := band h
    obtain ⟨h, h5⟩ := band h
    obtain ⟨h, h4⟩ := band h
    obtain ⟨h, h3⟩ := band h
    obtain ⟨h1, h2⟩ := band h
    have ok : BlkOk X.N X.env.scope scope own := blkOk_by (by rw [k.nN, k.sc]; exact h1)
    have htg : ∀ i ∈ tgtIs tg, i ∈ own.map (·.2) := fun i hi => of_decide_eq_true (List.all_eq_true.mp h2 i hi)
    have htg1 : ∀ i ∈ tgtIs tg1, i ∈ vs1 := fun i hi => of_decide_eq_true (List.all_eq_true.mp h3 i hi)
    have hvs1 : ∀ i ∈ vs1, i ∈ own.map (·.2) := fun i hi => of_decide_eq_true (List.all_eq_true.mp h4 i hi)
    have hi := sndI it iter' X W sc fn B tg' h7 k
    refine g2_fr k.gk ?_ (fun _ => rfl)
    have hg : ∀ (s : Shared) (H : Hp) (Cc : Addr) (cl' : List (Str × Addr)) (fp : List Addr), PG (X.blk s H scope (compEnvC scope cl' Cc X.env) fp) tg' (tgtG X.K tg) := fun s H Cc cl' fp => tgB_ok (k.blk s H scope Cc cl' fp) h5
    have hg1 : ∀ (s : Shared) (H : Hp) (Cc : Addr) (cl' : List (Str × Addr)) (fp : List Addr), PG (X.blk s H scope (compEnvC scope cl' Cc X.env) fp) tg1' (tgtG X.K tg1) := fun s H Cc cl' fp => tgB_ok (k.blk s H scope Cc cl' fp) h6
    have ht : ∀ (s : Shared) (H : Hp) (Cc : Addr) (cl' : List (Str × Addr)) (fp : List Addr), PTs (X.blk s H scope (compEnvC scope cl' Cc X.env) fp) ifs' (rdT G B noX (EC cl B.length ifs)) := fun s H Cc cl' fp => sndC ifs ifs' _ noX _ _ B h8 (k.blk s H scope Cc cl' fp)
    have hi1 : ∀ (s : Shared) (H : Hp) (Cc : Addr) (cl' : List (Str × Addr)) (fp : List Addr), PI (X.blk s H scope (compEnvC scope cl' Cc X.env) fp) tg1' iter1' (rdI G B noX (EI cl B.length it1)) := fun s H Cc cl' fp => sndI it1 iter1' _ noX _ _ B tg1' h9 (k.blk s H scope Cc cl' fp)
    have ht1 : ∀ (s : Shared) (H : Hp) (Cc : Addr) (cl' : List (Str × Addr)) (fp : List Addr), PTs (X.blk s H scope (compEnvC scope cl' Cc X.env) fp) ifs1' (rdT G B noX (EC cl B.length ifs1)) := fun s H Cc cl' fp => sndC ifs1 ifs1' _ noX _ _ B h10 (k.blk s H scope Cc cl' fp)
    have he : ∀ (s : Shared) (H : Hp) (Cc : Addr) (cl' : List (Str × Addr)) (fp : List Addr), PE (X.blk s H scope (compEnvC scope cl' Cc X.env) fp) elt' (rd G B noX (E cl B.length elt)) := fun s H Cc cl' fp => (sndE elt elt' _ noX _ _ B h11 (k.blk s H scope Cc cl' fp)).1
    have hk := pe_lc2D (elt := elt') (iter1 := iter1') (ifs := ifs') (ifs1 := ifs1') (fI1 := EI cl B.length it1) (fc := EC cl B.length ifs) (fc1 := EC cl B.length ifs1) (fe := E cl B.length elt) (B := B) (W := W) k.gk k.calm k.nd hi ok htg htg1
    exact (pe_lc2 (pos := p) k.calm k.nd hi ok hvs1 hg ht hi1 hg1 ht1 he (folded_of h12) (fun env => folded_of h13)).imp hk
theorem sndA : ∀ (xs : MArgs) (es : List Expr) (X : Cx) (W : WX) (sc : Scope) (fn : Str → Bool) (B : Store), chkA C sc xs es = true → Cok X G W C sc fn cl → PA X es (rdA G B W (EA cl B.length xs)) ∧ es.all nst = true
  | .nil, es, X, W, sc, fn, B, h, k => by
    cases es with
    | nil => exact ⟨pa_nilD, rfl⟩
    | cons => simp [chkA] at h
  | .cons a r, es, X, W, sc, fn, B, h, k => by
    cases es with
    | nil => simp [chkA] at h
    | cons e es =>
      simp only [chkA] at h
      obtain ⟨h, h3⟩ := band h
      obtain ⟨h1, h2⟩ := band h
      have ih := sndA r es X W sc fn B h3 k
      exact ⟨pa_consD (sndE a e X W sc fn B h1 k).1 ih.1 (star_of h2), by rw [List.all_cons, h2, ih.2]; rfl⟩
theorem sndK : ∀ (xs : MArgs) (ks : List Keyword) (X : Cx) (W : WX) (sc : Scope) (fn : Str → Bool) (B : Store), chkK C sc xs ks = true → Cok X G W C sc fn cl → PK X ks (rdA G B W (EA cl B.length xs))
  | .nil, ks, X, W, sc, fn, B, h, k => by
    cases ks with
    | nil => exact pk_nilD
    | cons => simp [chkK] at h
  | .cons a r, ks, X, W, sc, fn, B, h, k => by
    cases ks with
    | nil => simp [chkK] at h
    | cons k0 ks =>
      obtain ⟨nm, e, kp⟩ := k0
      simp only [chkK] at h
      obtain ⟨h1, h2⟩ := band h
      exact pk_consD (sndE a e X W sc fn B h1 k).1 (sndK r ks X W sc fn B h2 k)
theorem sndAnd : ∀ (xs : MArgs) (es : List Expr) (X : Cx) (W : WX) (sc : Scope) (fn : Str → Bool) (B : Store) (p : Pos), chkB C sc xs es = true → Cok X G W C sc fn cl → PE X (.BoolOp .And es p) (rd G B W (EAnd cl B.length xs)) ∧ PW X (.BoolOp .And es p) (rdT G B W (tst (EAnd cl B.length xs)))
  | .nil, es, X, W, sc, fn, B, p, h, k => by simp [chkB] at h
  | .cons a r, es, X, W, sc, fn, B, p, h, k => by
    match es, h with
    | [], h => cases r <;> simp [chkB] at h
    | [e], h =>
      cases r with
      | cons => simp [chkB] at h
      | nil =>
        simp only [chkB] at h
        have ih := sndE a e X W sc fn B h k
        exact ⟨pe_one ih.1, pw_and1 ih.2.1⟩
    | e :: e2 :: es, h =>
      cases r with
      | nil => simp [chkB] at h
      | cons b r =>
        simp only [chkB] at h
        obtain ⟨h1, h2⟩ := band h
        have ih := sndE a e X W sc fn B h1 k
        have ir := sndAnd (.cons b r) (e2 :: es) X W sc fn B p h2 k
        exact ⟨pe_andD k.gk ih.1 ir.1, pw_andD ih.2.1 ir.2⟩
theorem sndOr : ∀ (xs : MArgs) (es : List Expr) (X : Cx) (W : WX) (sc : Scope) (fn : Str → Bool) (B : Store) (p : Pos), chkB C sc xs es = true → Cok X G W C sc fn cl → PE X (.BoolOp .Or es p) (rd G B W (EOr cl B.length xs)) ∧ PW X (.BoolOp .Or es p) (rdT G B W (tst (EOr cl B.length xs)))
  | .nil, es, X, W, sc, fn, B, p, h, k => by simp [chkB] at h
  | .cons a r, es, X, W, sc, fn, B, p, h, k => by
    match es, h with
    | [], h => cases r <;> simp [chkB] at h
    | [e], h =>
      cases r with
      | cons => simp [chkB] at h
      | nil =>
        simp only [chkB] at h
        have ih := sndE a e X W sc fn B h k
        exact ⟨pe_one ih.1, pw_or1 ih.2.1⟩
    | e :: e2 :: es, h =>
      cases r with
      | nil => simp [chkB] at h
      | cons b r =>
        simp only [chkB] at h
        obtain ⟨h1, h2⟩ := band h
        have ih := sndE a e X W sc fn B h1 k
        have ir := sndOr (.cons b r) (e2 :: es) X W sc fn B p h2 k
        exact ⟨pe_orD k.gk ih.1 ir.1, pw_orD ih.2.1 ir.2⟩
theorem sndO : ∀ (o : MOpt) (e : Option Expr) (X : Cx) (W : WX) (sc : Scope) (fn : Str → Bool) (B : Store), chkO C sc o e = true → Cok X G W C sc fn cl → PO X e (rdO G B W (EO cl B.length o))
  | .none, e, X, W, sc, fn, B, h, k => by
    cases e with
    | none => exact po_noneD
    | some => simp [chkO] at h
  | .some m, e, X, W, sc, fn, B, h, k => by
    cases e with
    | none => simp [chkO] at h
    | some e =>
      simp only [chkO] at h
      exact po_someD (sndE m e X W sc fn B h k).1
theorem sndC : ∀ (o : MOpt) (e : List Expr) (X : Cx) (W : WX) (sc : Scope) (fn : Str → Bool) (B : Store), chkC C sc o e = true → Cok X G W C sc fn cl → PTs X e (rdT G B W (EC cl B.length o))
  | .none, e, X, W, sc, fn, B, h, k => by
    cases e with
    | nil => exact PTs.imp pts_nil fun σ H Q ⟨Ex, φ, ρ, τ, h⟩ => h.done Grow.refl rfl
    | cons => simp [chkC] at h
  | .some m, e, X, W, sc, fn, B, h, k => by
    match e, h with
    | [e], h =>
      simp only [chkC] at h
      exact PTs.imp (pts_one (sndE m e X W sc fn B h k).2.1) fun σ H Q h => h
    | [], h => simp [chkC] at h
    | _ :: _ :: _, h => simp [chkC] at h
theorem sndI : ∀ (i : MIter) (e : Expr) (X : Cx) (W : WX) (sc : Scope) (fn : Str → Bool) (B : Store) (tg : Expr), chkI C sc tg i e = true → Cok X G W C sc fn cl → PI X tg e (rdI G B W (EI cl B.length i))
  | .over m, e, X, W, sc, fn, B, tg, h, k => by
    have h' : chkE C sc m e = true := by cases e <;> simpa only [chkI] using h
    exact pi_overD k.gk (sndE m e X W sc fn B h' k).1
  | .range1 a, e, X, W, sc, fn, B, tg, h, k => by
    cases e
    case Call fe es ks p =>
      cases fe
      case Name x p1 =>
        cases ks
        case nil =>
          match es, h with
          | [a'], h =>
            simp only [chkI] at h
            obtain ⟨h, h5⟩ := band h
            obtain ⟨h, h4⟩ := band h
            obtain ⟨h, h3⟩ := band h
            obtain ⟨h1, h2⟩ := band h
            have h1 := of_decide_eq_true h1
            subst h1
            exact pi_range1D (sndE a a' X W sc fn B h4 k).1 (k.glo h2) (k.frB h3) (star_of h5)
          | [], h => simp [chkI] at h
          | _ :: _ :: _, h => simp [chkI] at h
        case cons => (cases es with | nil => exact absurd h Bool.false_ne_true | cons e es => cases es with | nil => exact absurd h Bool.false_ne_true | cons e2 es => exact absurd h Bool.false_ne_true)
      all_goals (simp only [chkI] at h; cases h)
    all_goals (simp only [chkI] at h; cases h)
  | .range2 a b, e, X, W, sc, fn, B, tg, h, k => by
    cases e
    case Call fe es ks p =>
      cases fe
      case Name x p1 =>
        cases ks
        case nil =>
          match es, h with
          | [a', b'], h =>
            simp only [chkI] at h
            obtain ⟨h, h7⟩ := band h
            obtain ⟨h, h6⟩ := band h
            obtain ⟨h, h5⟩ := band h
            obtain ⟨h, h4⟩ := band h
            obtain ⟨h, h3⟩ := band h
            obtain ⟨h1, h2⟩ := band h
            have h1 := of_decide_eq_true h1
            subst h1
            exact pi_range2D (sndE a a' X W sc fn B h4 k).1 (sndE b b' X W sc fn B h5 k).1 (k.glo h2) (k.frB h3) (star_of h6) (star_of h7)
          | [], h => simp [chkI] at h
          | [_], h => simp [chkI] at h
          | _ :: _ :: _ :: _, h => simp [chkI] at h
        case cons => (cases es with | nil => exact absurd h Bool.false_ne_true | cons e es => cases es with | nil => exact absurd h Bool.false_ne_true | cons e2 es => cases es with | nil => exact absurd h Bool.false_ne_true | cons e3 es => exact absurd h Bool.false_ne_true)
      all_goals (simp only [chkI] at h; cases h)
    all_goals (simp only [chkI] at h; cases h)
  | .range3 a b c, e, X, W, sc, fn, B, tg, h, k => by
    cases e
    case Call fe es ks p =>
      cases fe
      case Name x p1 =>
        cases ks
        case nil =>
          match es, h with
          | [a', b', c'], h =>
            simp only [chkI] at h
            obtain ⟨h, h9⟩ := band h
            obtain ⟨h, h8⟩ := band h
            obtain ⟨h, h7⟩ := band h
            obtain ⟨h, h6⟩ := band h
            obtain ⟨h, h5⟩ := band h
            obtain ⟨h, h4⟩ := band h
            obtain ⟨h, h3⟩ := band h
            obtain ⟨h1, h2⟩ := band h
            have h1 := of_decide_eq_true h1
            subst h1
            exact pi_range3D (sndE a a' X W sc fn B h4 k).1 (sndE b b' X W sc fn B h5 k).1 (sndE c c' X W sc fn B h6 k).1 (k.glo h2) (k.frB h3) (star_of h7) (star_of h8) (star_of h9)
          | [], h => simp [chkI] at h
          | [_], h => simp [chkI] at h
          | [_, _], h => simp [chkI] at h
          | _ :: _ :: _ :: _ :: _, h => simp [chkI] at h
        all_goals (match es, h with
          | [], h => exact absurd h Bool.false_ne_true
          | [_], h => exact absurd h Bool.false_ne_true
          | [_, _], h => exact absurd h Bool.false_ne_true
          | [_, _, _], h => exact absurd h Bool.false_ne_true
          | _ :: _ :: _ :: _ :: _, h => exact absurd h Bool.false_ne_true)
      all_goals (exact absurd h Bool.false_ne_true)
    all_goals (exact absurd h Bool.false_ne_true)
  | .zip a b, e, X, W, sc, fn, B, tg, h, k => by
    cases e
    case Call fe es ks p =>
      cases fe
      case Name x p1 =>
        cases ks
        case nil =>
          match es, h with
          | [a', b'], h =>
            simp only [chkI] at h
            obtain ⟨h, h8⟩ := band h
            obtain ⟨h, h7⟩ := band h
            obtain ⟨h, h6⟩ := band h
            obtain ⟨h, h5⟩ := band h
            obtain ⟨h, h4⟩ := band h
            obtain ⟨h, h3⟩ := band h
            obtain ⟨h1, h2⟩ := band h
            have h1 := of_decide_eq_true h1
            subst h1
            cases tg
            case Tuple elts kk tpos => exact pi_zipD k.gk (k.glo h2) (k.frB h3) (sndE a a' X W sc fn B h4 k).1 (sndE b b' X W sc fn B h5 k).1 (star_of h6) (star_of h7)
            all_goals (exact absurd h8 Bool.false_ne_true)
          | [], h => simp [chkI] at h
          | [_], h => simp [chkI] at h
          | _ :: _ :: _ :: _, h => simp [chkI] at h
        all_goals (match es, h with
          | [], h => exact absurd h Bool.false_ne_true
          | [_], h => exact absurd h Bool.false_ne_true
          | [_, _], h => exact absurd h Bool.false_ne_true
          | _ :: _ :: _ :: _, h => exact absurd h Bool.false_ne_true)
      all_goals (exact absurd h Bool.false_ne_true)
    all_goals (exact absurd h Bool.false_ne_true)
  | .enum a, e, X, W, sc, fn, B, tg, h, k => by
    cases e
    case Call fe es ks p =>
      cases fe
      case Name x p1 =>
        cases ks
        case nil =>
          match es, h with
          | [a'], h =>
            simp only [chkI] at h
            obtain ⟨h, h6⟩ := band h
            obtain ⟨h, h5⟩ := band h
            obtain ⟨h, h4⟩ := band h
            obtain ⟨h, h3⟩ := band h
            obtain ⟨h1, h2⟩ := band h
            have h1 := of_decide_eq_true h1
            subst h1
            cases tg
            case Tuple elts kk tpos => exact pi_enumD k.gk (k.glo h2) (k.frB h3) (sndE a a' X W sc fn B h4 k).1 (star_of h5)
            all_goals (exact absurd h6 Bool.false_ne_true)
          | [], h => simp [chkI] at h
          | _ :: _ :: _, h => simp [chkI] at h
        all_goals (match es, h with
          | [], h => exact absurd h Bool.false_ne_true
          | [_], h => exact absurd h Bool.false_ne_true
          | _ :: _ :: _, h => exact absurd h Bool.false_ne_true)
      all_goals (exact absurd h Bool.false_ne_true)
    all_goals (exact absurd h Bool.false_ne_true)
end
end
end M
set_option Elab.async false
set_option linter.all false
set_option maxRecDepth 100000
set_option maxHeartbeats 8000000
/-! Statements: what is checked means what it says. -/
namespace M
open PySem PySem.Spec PyProof.Rows L2
def starAny (vs : List Expr) : Bool := vs.any fun | .Starred .. => true | _ => false
def nmsOf (sc : Scope) (ts : List Expr) : List Str := ts.filterMap fun | .Name id pos => if sc.names.lookup id == some .local && pos.line == (ts.head?.map (·.pos.line)).getD 0 then some id else none | _ => none
theorem sw_eq {ts vs : List Expr} {k p k2 p2} {env : PySem.Env} : swappedStores [.Tuple ts k p] (.Tuple vs k2 p2) env =
   (if (!(ts.length == 2 || ts.length == 3) || vs.length != ts.length || env.blockKind != .function) = true then pure none else
    if starAny vs = true then pure none else
    if ((nmsOf env.scope ts).length != ts.length || (nmsOf env.scope ts).eraseDups.length != (nmsOf env.scope ts).length) = true then pure none else
    if vs.all (foldedForSure 8) = true then pure none else
    if vs.all (constantsAlone 8) = true then (do unsupported "assign.tuple-of-constant-expressions:order-of-the-stores"; pure (some (nmsOf env.scope ts))) else
    pure (some (nmsOf env.scope ts))) := by
  rfl
/-- the pair is made and taken apart -/
def swNone (sc : Scope) (ts vs : List Expr) : Bool := !(ts.length == 2 || ts.length == 3) || vs.length != ts.length || (nmsOf sc ts).length != ts.length || vs.all (foldedForSure 8)
theorem sw_none {ts vs : List Expr} {k p k2 p2} {env : PySem.Env} (h : swNone env.scope ts vs = true) : swappedStores [.Tuple ts k p] (.Tuple vs k2 p2) env = pure none := by
  rw [sw_eq]
  unfold swNone at h
  simp only [Bool.or_eq_true] at h ⊢
  split
  · rfl
  · split
    · rfl
    · split
      · rfl
      · rename_i h1 h2 h3
        have : vs.all (foldedForSure 8) = true := by
          rcases h with (h | h) | h
          · exact absurd (.inl h) h1
          · exact absurd (.inl h) h3
          · exact h
        rw [if_pos this]
/-- the values go to the names from the right -/
def swPar (sc : Scope) (ts vs : List Expr) (names : List Str) : Bool := !(!(ts.length == 2 || ts.length == 3) || vs.length != ts.length) && !starAny vs && decide (nmsOf sc ts = names) && !(names.length != ts.length || names.eraseDups.length != names.length) && !vs.all (foldedForSure 8) && !vs.all (constantsAlone 8)
theorem sw_par {ts vs : List Expr} {k p k2 p2} {env : PySem.Env} {names : List Str} (hk : env.scope.kind = .function) (h : swPar env.scope ts vs names = true) : swappedStores [.Tuple ts k p] (.Tuple vs k2 p2) env = pure (some names) := by
  have hb : (env.blockKind != .function) = false := by unfold Env.blockKind; rw [hk]; rfl
  unfold swPar at h
  obtain ⟨h, h6⟩ := band h
  obtain ⟨h, h5⟩ := band h
  obtain ⟨h, h4⟩ := band h
  obtain ⟨h, h3⟩ := band h
  obtain ⟨h1, h2⟩ := band h
  have h3 := of_decide_eq_true h3
  subst h3
  rw [sw_eq]
  rw [Bool.not_eq_true'] at h1 h2 h4 h5 h6
  rw [if_neg (by rw [h1, hb]; decide), if_neg (by rw [h2]; decide), if_neg (by rw [h4]; decide), if_neg (by rw [h5]; decide), if_neg (by rw [h6]; decide)]
theorem sw_other {t v : Expr} {env : PySem.Env} (h : ∀ vs k p, v ≠ .Tuple vs k p) : swappedStores [t] v env = pure none := by
  cases v <;> first
    | exact absurd rfl (h _ _ _)
    | (cases t <;> rfl)
/-! ### the check -/
def swLc (sc : Scope) (x : Str) (p' : Pos) (scope : Scope) (lp : Pos) : Bool := decide (sc.names.lookup x = some .local) && p'.line == lp.line && !(scope.names.any fun (n, k) => n == x && (k == .local || k == .cell))
theorem swLc_eq {env : PySem.Env} {x : Str} {p' : Pos} {elt : Expr} {gs : List Comprehension} {scope : Scope} {lp : Pos} {l : Nat} (hk : env.scope.kind = .function) : swapsWith (.ListComp elt gs scope lp) (some (.Name x p')) l env = pure (swLc env.scope x p' scope lp) := by
  have hb : env.blockKind = .function := by unfold Env.blockKind; rw [hk]; rfl
  show pure (env.blockKind == .function && env.kindOf x == some .local && p'.line == lp.line && !(scope.names.any fun (n, k) => n == x && (k == .local || k == .cell))) = _
  rw [hb]
  have e : (env.kindOf x == some .local) = decide (env.scope.names.lookup x = some .local) := by
    show (env.scope.names.lookup x == some .local) = _
    by_cases h : env.scope.names.lookup x = some .local
    · rw [h]; rfl
    · rw [decide_eq_false h]; simpa using h
  rw [e]; rfl
def isLc : MExpr → Bool
  | .lc .. => true
  | _ => false
/-- a name's store -/
def asgN (C : CK) (sc : Scope) (i : Nat) (m : MExpr) : Expr → Expr → Bool
  | .Name x p', v => decide (C.N[i]? = some x) && locB sc x && (match v with
    | .ListComp elt gs scope lp => !swLc sc x p' scope lp || isLc m
    | v => ncp v)
  | _, _ => false
def asgT (C : CK) (sc : Scope) (is : List Nat) (m : MExpr) : Expr → Expr → Bool
  | .Tuple ts k p, .Tuple vs k2 p2 => tgB C sc (fun _ => true) (.t is) (.Tuple ts k p) && (swNone sc ts vs || (match m, is, ts with
    | .tup _, [i, j], [.Name x _, .Name y _] => swPar sc ts vs [x, y] && decide (i ≠ j) && decide (sc.names.lookup x = some .local) && decide (sc.names.lookup y = some .local)
    | .tup _, [i, j, l], [.Name x _, .Name y _, .Name z _] => swPar sc ts vs [x, y, z] && decide (i ≠ j) && decide (i ≠ l) && decide (j ≠ l) && decide (sc.names.lookup x = some .local) && decide (sc.names.lookup y = some .local) && decide (sc.names.lookup z = some .local)
    | _, _, _ => false))
  | .Tuple ts k p, v => tgB C sc (fun _ => true) (.t is) (.Tuple ts k p) && ncp v
  | _, _ => false
def allFr (C : CK) : MArgs → Bool
  | .nil => true
  | .cons a r => isFr C a && allFr C r
/-- x = a or b of new lists -/
def chkAB (C : CK) (sc : Scope) (i : Nat) : MExpr → Expr → Expr → Bool
  | .alloc (.bor xs), t, .BoolOp .Or es p => chkB C sc xs es && allFr C xs && asgN C sc i (.alloc (.bor xs)) t (.BoolOp .Or es p)
  | _, _, _ => false
mutual
def chkS (C : CK) (sc : Scope) (fr : Bool) : MStmt → Stmt → Bool
  | .asg (.n i) e, .Assign [t] v _ => chkE C sc e v && asgN C sc i e t v || chkAB C sc i e t v
  | .asg (.t is) e, .Assign [t] v _ => chkE C sc e v && asgT C sc is e t v
  | .setidx a i e, .Assign [.Subscript a' i' _] v _ => chkE C sc e v && chkE C sc a a' && chkE C sc i i' && nsl i' && ncp v
  | .expr e, .Expr e' _ => chkE C sc e e' && ncp e'
  | .ret e, .Return (some e') _ => chkE C sc e e' && (!fr || isFr C e)
  | .retv i, .Return (some (.Name x _)) _ => decide (C.N[i]? = some x) && visB sc x && okName x
  | .retN, .Return none _ => true
  | .ite t a b, .If t' a' b' _ => chkE C sc t t' && chkSL C sc fr a a' && chkSL C sc fr b b'
  | .loop tg it body, .For t' it' body' [] _ => tgB C sc (fun _ => true) tg t' && chkI C sc t' it it' && nset it' && chkSL C sc fr body body'
  | .while t body, .While t' body' [] _ => chkE C sc t t' && chkSL C sc fr body body'
  | .brk, .Break _ => true
  | .cnt, .Continue _ => true
  | .pass, .Pass _ => true
  | .raise c, .Raise (some (.Call (.Name x _) [] [] _)) none _ => decide (x = c) && gloB sc x && okName x && C.errs.contains x
  | _, _ => false
def chkSL (C : CK) (sc : Scope) (fr : Bool) : List MStmt → List Stmt → Bool
  | [], [] => true
  | .freeze _ :: r, sts => chkSL C sc fr r sts
  | .forget _ :: r, sts => chkSL C sc fr r sts
  | s :: r, st :: sts => chkS C sc fr s st && chkSL C sc fr r sts
  | _, _ => false
end
section
variable {X : Cx} {G : Gx} {W : WX} {C : CK} {sc : Scope} {cl : Calls} {B : Store} {fr : Bool}
/-- a def's own block -/
structure Dok (X : Cx) (G : Gx) (W : WX) (C : CK) (sc : Scope) (cl : Calls) : Prop where
  c : Cok X G W C sc (fun _ => true) cl
  po : PassesOwn (model X.prog X.w) X.A X.env X.xe
  kind : X.env.scope.kind = .function
theorem at_asgF {fa : M.Env → Store → Out (D × Store)} (hG : G.K = X.K) {mt : MTgt} : ∀ K σ H, tS G B W fr (asgF mt fa) K σ H → tAsg (rdF G B W fa) (tgtG X.K mt) K σ H := by
  rintro K σ H ⟨Ex, φ, ρ, τ, h⟩
  refine ⟨Ex, φ, ρ, τ, At.mono (At.to (P := PD G true) h) ?_⟩
  rintro v H1 ⟨d, φ1, τ1, e, st, p, h1⟩
  split at h1
  · rename_i ρ' es
    exact tgt_ok hG h1.1.er p.1 es fun σ1 er1 _ => h1.2 φ1 σ1 H1 Step.refl ⟨h1.1.sr, er1, h1.1.low, h1.1.bs⟩
  · exact h1.2.elim
/-- name = [..] with the swap -/
theorem snd_setLc (k : Dok X G W C sc cl) {i : Nat} {x : Str} {p' p lp : Pos} {m : MExpr} {elt : Expr} {gs : List Comprehension} {scope : Scope} (h : chkE C sc m (.ListComp elt gs scope lp) = true) (hm : isLc m = true) (hi : C.N[i]? = some x) (hsw : swLc sc x p' scope lp = true) :
    PS X (.Assign [.Name x p'] (.ListComp elt gs scope lp) p) (tS G B W fr (asgF (.n i) (E cl B.length m))) := by
  have k0 := k.c
  cases m <;> try (cases hm; done)
  case lc me tg it ifs own =>
    match gs, h, hsw with
    | [], h, _ => simp [chkE] at h
    | _ :: _ :: _, h, _ => simp [chkE] at h
    | [g], h, hsw =>
      obtain ⟨tg', iter', ifs', n⟩ := g
      have hn : n = 0 := by
        by_cases hn : n = 0
        · exact hn
        · exfalso
          unfold chkE at h
          split at h <;> first | exact hn rfl | cases h | simp_all
      subst hn
      simp only [chkE] at h
      obtain ⟨h, h7⟩ := band h
      obtain ⟨h, h6⟩ := band h
      obtain ⟨h, h5⟩ := band h
      obtain ⟨h, h4⟩ := band h
      obtain ⟨h, h3⟩ := band h
      obtain ⟨h1, h2⟩ := band h
      have ok : BlkOk X.N X.env.scope scope own := blkOk_by (by rw [k0.nN, k0.sc]; exact h1)
      have htg : ∀ i ∈ tgtIs tg, i ∈ own.map (·.2) := fun i hi => of_decide_eq_true (List.all_eq_true.mp h2 i hi)
      have hit := sndI it iter' X W sc _ B tg' h4 k0
      have hg : ∀ (s : Shared) (H : Hp) (Cc : Addr) (cl' : List (Str × Addr)) (fp : List Addr), PG (X.blk s H scope (compEnvC scope cl' Cc X.env) fp) tg' (tgtG X.K tg) := fun s H Cc cl' fp => tgB_ok (k0.blk s H scope Cc cl' fp) h3
      have ht : ∀ (s : Shared) (H : Hp) (Cc : Addr) (cl' : List (Str × Addr)) (fp : List Addr), PTs (X.blk s H scope (compEnvC scope cl' Cc X.env) fp) ifs' (rdT G B noX (EC cl B.length ifs)) := fun s H Cc cl' fp => sndC ifs ifs' _ noX _ _ B h5 (k0.blk s H scope Cc cl' fp)
      have he : ∀ (s : Shared) (H : Hp) (Cc : Addr) (cl' : List (Str × Addr)) (fp : List Addr), PE (X.blk s H scope (compEnvC scope cl' Cc X.env) fp) elt (rd G B noX (E cl B.length me)) := fun s H Cc cl' fp => (sndE me elt _ noX _ _ B h6 (k0.blk s H scope Cc cl' fp)).1
      have hk := pe_lcD (B := B) (W := W) k0.gk k0.calm k0.nd hit ok htg hg ht he
      have hl : X.env.scope.names.lookup x = some .local := by
        rw [k0.sc]
        unfold swLc at hsw
        exact of_decide_eq_true (band (band hsw).1).1
      have hs : swapsWith (.ListComp elt [⟨tg', iter', ifs', 0⟩] scope lp) (some (.Name x p')) p.line X.env = pure true := by
        rw [swLc_eq k.kind, k0.sc, hsw]
      refine (ps_setLc k0.calm k0.nd (by rw [k0.nN]; exact hi) hl hs hit ok hg ht he (folded_of h7)).imp fun K σ H hq => ?_
      exact hk σ H _ (at_asgF k0.gk (mt := .n i) K σ H hq)
theorem snd_asgN (k : Dok X G W C sc cl) {i : Nat} {m : MExpr} {t v : Expr} {p : Pos} (h : chkE C sc m v = true) (h2 : asgN C sc i m t v = true) : PS X (.Assign [t] v p) (tS G B W fr (asgF (.n i) (E cl B.length m))) := by
  cases t <;> try (simp only [asgN] at h2; cases h2; done)
  case Name x p' =>
    have ih := (sndE m v X W sc _ B h k.c).1
    unfold asgN at h2
    obtain ⟨h2, h3⟩ := band h2
    obtain ⟨h1, h2⟩ := band h2
    have h1 := of_decide_eq_true h1
    have base : swapsWith v (some (.Name x p')) p.line X.env = pure false → PS X (.Assign [.Name x p'] v p) (tS G B W fr (asgF (.n i) (E cl B.length m))) := fun hs =>
      ps_setD k.c.gk k.c.nd (by rw [k.c.nN]; exact h1) (loc_of (by rw [k.c.sc]; exact h2)) ih hs (.inl (k.c.fn x rfl))
    by_cases hv : ∃ elt gs scope lp, v = .ListComp elt gs scope lp
    · obtain ⟨elt, gs, scope, lp, rfl⟩ := hv
      simp only [Bool.or_eq_true, Bool.not_eq_true'] at h3
      by_cases hsw : swLc sc x p' scope lp = true
      · rcases h3 with h3 | h3
        · rw [hsw] at h3; cases h3
        · exact snd_setLc k h h3 h1 hsw
      · refine base ?_
        rw [swLc_eq k.kind, k.c.sc]
        simp only [Bool.not_eq_true] at hsw
        rw [hsw]
    · refine base (swaps_of ?_)
      cases v <;> first
        | exact absurd ⟨_, _, _, _, rfl⟩ hv
        | exact h3
theorem snd_asgT (k : Dok X G W C sc cl) {is : List Nat} {m : MExpr} {t v : Expr} {p : Pos} (h : chkE C sc m v = true) (h2 : asgT C sc is m t v = true) : PS X (.Assign [t] v p) (tS G B W fr (asgF (.t is) (E cl B.length m))) := by
  have ih := (sndE m v X W sc _ B h k.c).1
  cases t <;> try (simp only [asgT] at h2; cases h2; done)
  case Tuple ts kt pt =>
    have gen : tgB C sc (fun _ => true) (.t is) (.Tuple ts kt pt) = true → ncp v = true → swappedStores [.Tuple ts kt pt] v X.env = pure none → PS X (.Assign [.Tuple ts kt pt] v p) (tS G B W fr (asgF (.t is) (E cl B.length m))) := fun g1 g2 g3 => by
      have g2' : swapsWithSole [.Tuple ts kt pt] v p.line X.env = pure false := show swapsWith v (some (.Tuple ts kt pt)) p.line X.env = pure false from swaps_of g2
      exact ps_asgD k.c.gk ih (tgB_ok k.c g1) g2' g3 (by rfl)
    by_cases hv : ∃ vs k2 p2, v = .Tuple vs k2 p2
    · obtain ⟨vs, k2, p2, rfl⟩ := hv
      simp only [asgT] at h2
      obtain ⟨h2, h3⟩ := band h2
      rw [Bool.or_eq_true] at h3
      rcases h3 with h3 | h3
      · exact gen h2 rfl (sw_none (by rw [k.c.sc]; exact h3))
      · split at h3
        · rename_i xs i j x px y py hh
          obtain ⟨h3, q4⟩ := band h3
          obtain ⟨h3, q3⟩ := band h3
          obtain ⟨q1, q2⟩ := band h3
          have h2 := hh; unfold tgB at h2
          obtain ⟨_, h2⟩ := band h2
          simp only [List.zip_cons_cons, List.zip_nil_right, List.all_cons, List.all_nil, Bool.and_true, Bool.and_eq_true, decide_eq_true_eq] at h2
          obtain ⟨⟨⟨n1, _⟩, _⟩, ⟨n2, _⟩, _⟩ := h2
          have h : chkA C sc xs vs = true := h
          have hl : vs.length = 2 := by
            unfold swPar at q1
            have := (band (band (band (band (band q1).1).1).1).1).1
            simpa using this
          match vs, hl, h, q1 with
          | [a, b], _, h, q1 =>
            exact ps_par2D k.c.gk k.c.calm k.c.nd (by rw [k.c.nN]; exact n1) (by rw [k.c.nN]; exact n2) (of_decide_eq_true q2) (by rw [k.c.sc]; exact of_decide_eq_true q3) (by rw [k.c.sc]; exact of_decide_eq_true q4)
              (sndA xs [a, b] X W sc _ B h k.c).1 (sw_par k.kind (by rw [k.c.sc]; exact q1))
        · rename_i xs i j l x px y py z pz hh
          obtain ⟨h3, q7⟩ := band h3
          obtain ⟨h3, q6⟩ := band h3
          obtain ⟨h3, q5⟩ := band h3
          obtain ⟨h3, q4⟩ := band h3
          obtain ⟨h3, q3⟩ := band h3
          obtain ⟨q1, q2⟩ := band h3
          have h2 := hh; unfold tgB at h2
          obtain ⟨_, h2⟩ := band h2
          simp only [List.zip_cons_cons, List.zip_nil_right, List.all_cons, List.all_nil, Bool.and_true, Bool.and_eq_true, decide_eq_true_eq] at h2
          obtain ⟨⟨⟨n1, _⟩, _⟩, ⟨⟨n2, _⟩, _⟩, ⟨n3, _⟩, _⟩ := h2
          have h : chkA C sc xs vs = true := h
          have hl : vs.length = 3 := by
            unfold swPar at q1
            have := (band (band (band (band (band q1).1).1).1).1).1
            simpa using this
          match vs, hl, h, q1 with
          | [a, b, c], _, h, q1 =>
            exact ps_par3D k.c.gk k.c.calm k.c.nd (by rw [k.c.nN]; exact n1) (by rw [k.c.nN]; exact n2) (by rw [k.c.nN]; exact n3) (of_decide_eq_true q2) (of_decide_eq_true q3) (of_decide_eq_true q4)
              (by rw [k.c.sc]; exact of_decide_eq_true q5) (by rw [k.c.sc]; exact of_decide_eq_true q6) (by rw [k.c.sc]; exact of_decide_eq_true q7) (sndA xs [a, b, c] X W sc _ B h k.c).1 (sw_par k.kind (by rw [k.c.sc]; exact q1))
        · cases h3
    · have : (tgB C sc (fun _ => true) (.t is) (.Tuple ts kt pt) && ncp v) = true := by
        cases v <;> first
          | exact absurd ⟨_, _, _, rfl⟩ hv
          | exact h2
      obtain ⟨g1, g2⟩ := band this
      exact gen g1 g2 (sw_other fun vs k p e => hv ⟨vs, k, p, e⟩)
theorem pe_orF (hG : G.K = X.K) {a b : Expr} {es : List Expr} {pos : Pos} {fa fb : M.Env → Store → Out (D × Store)} (ha : PE X a (rdF G B W fa)) (hb : PE X (.BoolOp .Or (b :: es) pos) (rdF G B W fb)) :
    PE X (.BoolOp .Or (a :: b :: es) pos) (rdF G B W fun ρ τ => (fa ρ τ).bind fun x => (ofO (tru (hd x.2 x.1))).bind fun k => if k = true then .ok x else fb ρ x.2) := by
  refine (pe_orT ha hb).imp ?_
  rintro σ H Q ⟨Ex, φ, ρ, τ, h⟩
  have h0 := h
  refine ⟨Ex, φ, ρ, τ, h.1, ?_⟩
  have hb2 := (At.bind (P2 := PD G true) h PD.back).2
  dsimp only at h0
  cases e0 : fa ρ τ with
  | stuck => rw [e0] at hb2; exact hb2
  | exc c p τ' => rw [e0] at hb2; exact hb2
  | ok q =>
    obtain ⟨d1, τ1⟩ := q
    rw [e0] at hb2 h0
    intro φ1 v1 H1 st1 R1 p1
    obtain ⟨d', φ', τ', e1, st', p', h1⟩ := hb2 φ1 v1 H1 st1 R1 p1
    cases e1
    simp only [Out.bind_ok] at h0
    cases eF : tru (hd τ1 d1) with
    | none => simp only [eF] at h1; exact h1.2.elim
    | some k =>
      simp only [eF, ofO_some, Out.bind_ok] at h1 h0
      refine ⟨k, tru_rep hG (h1.1.sr.hd p'.1) eF, ?_⟩
      cases k with
      | false => exact ⟨Ex, φ', ρ, τ1, h1⟩
      | true => exact h0.2 φ1 v1 H1 st1 R1 p1
theorem snd_orF : ∀ (xs : MArgs) (es : List Expr) (p : Pos), chkB C sc xs es = true → allFr C xs = true → Cok X G W C sc (fun _ => true) cl → PE X (.BoolOp .Or es p) (rdF G B W (EOr cl B.length xs))
  | .nil, es, p, h, _, k => by simp [chkB] at h
  | .cons a r, es, p, h, hf, k => by
    simp only [allFr] at hf
    obtain ⟨f1, f2⟩ := band hf
    match es, h with
    | [], h => cases r <;> simp [chkB] at h
    | [e], h =>
      cases r with
      | cons => simp [chkB] at h
      | nil =>
        simp only [chkB] at h
        have ih := sndE a e X W sc _ B h k
        exact pe_one (ih.2.2 f1)
    | e :: e2 :: es, h =>
      cases r with
      | nil => simp [chkB] at h
      | cons b r =>
        simp only [chkB] at h
        obtain ⟨h1, h2⟩ := band h
        have ih := sndE a e X W sc _ B h1 k
        exact pe_orF k.gk (ih.2.2 f1) (snd_orF (.cons b r) (e2 :: es) p h2 f2 k)
theorem snd_asgAB (k : Dok X G W C sc cl) {i : Nat} {m : MExpr} {t v : Expr} {p : Pos} (h : chkAB C sc i m t v = true) : PS X (.Assign [t] v p) (tS G B W fr (asgF (.n i) (E cl B.length m))) := by
  cases m <;> try (exact absurd h Bool.false_ne_true)
  case alloc m0 =>
    cases m0 <;> try (exact absurd h Bool.false_ne_true)
    case bor xs =>
      cases v <;> try (exact absurd h Bool.false_ne_true)
      case BoolOp op es p2 =>
        cases op <;> try (exact absurd h Bool.false_ne_true)
        case Or =>
          obtain ⟨h, h3⟩ := band h
          obtain ⟨h1, h2⟩ := band h
          cases t <;> try (exact absurd h3 Bool.false_ne_true)
          case Name x p' =>
            unfold asgN at h3
            obtain ⟨h3, h5⟩ := band h3
            obtain ⟨h3, h4⟩ := band h3
            have ih : PE X (.BoolOp .Or es p2) (rd G B W (E cl B.length (.alloc (.bor xs)))) := pe_allocD (snd_orF xs es p2 h1 h2 k.c)
            exact ps_setD k.c.gk k.c.nd (by rw [k.c.nN]; exact of_decide_eq_true h3) (loc_of (by rw [k.c.sc]; exact h4)) ih (swaps_of rfl) (.inl (k.c.fn x rfl))
mutual
theorem sndS : ∀ (m : MStmt) (st : Stmt) (B : Store), chkS C sc fr m st = true → Dok X G W C sc cl → PS X st (tS G B W fr (S cl B.length m))
  | .asg tg e, st, B, h, k => by
    cases st
    case Assign ts v p =>
      match ts, h with
      | [t], h =>
        cases tg with
        | n i =>
          simp only [chkS] at h
          rw [Bool.or_eq_true] at h
          rcases h with h | h
          · obtain ⟨h1, h2⟩ := band h
            exact snd_asgN k h1 h2
          · exact snd_asgAB k h
        | t is =>
          simp only [chkS] at h
          obtain ⟨h1, h2⟩ := band h
          exact snd_asgT k h1 h2
      | [], h => cases tg <;> exact absurd h Bool.false_ne_true
      | _ :: _ :: _, h => cases tg <;> exact absurd h Bool.false_ne_true
    all_goals (cases tg <;> exact absurd h Bool.false_ne_true)
  | .setidx a i e, st, B, h, k => by
    cases st
    case Assign ts v p =>
      match ts, h with
      | [t], h =>
        cases t
        case Subscript a' i' p2 =>
          simp only [chkS] at h
          obtain ⟨h, h5⟩ := band h
          obtain ⟨h, h4⟩ := band h
          obtain ⟨h, h3⟩ := band h
          obtain ⟨h1, h2⟩ := band h
          have g5 : swapsWithSole [.Subscript a' i' p2] v p.line X.env = pure false := show swapsWith v (some (.Subscript a' i' p2)) p.line X.env = pure false from swaps_of h5
          refine ps_setidxD (sndE e v X W sc _ B h1 k.c).1 (sndE a a' X W sc _ B h2 k.c).1 (sndE i i' X W sc _ B h3 k.c).1 g5 (by rfl) (by rfl) (fun v => ?_)
          cases i' <;> first | rfl | cases h4
        all_goals (exact absurd h Bool.false_ne_true)
      | [], h => exact absurd h Bool.false_ne_true
      | t :: _ :: _, h => cases t <;> exact absurd h Bool.false_ne_true
    all_goals (exact absurd h Bool.false_ne_true)
  | .expr e, st, B, h, k => by
    cases st <;> simp only [chkS] at h
    case Expr e' p =>
      obtain ⟨h1, h2⟩ := band h
      exact ps_exprD (sndE e e' X W sc _ B h1 k.c).1 (swaps_of h2)
    all_goals cases h
  | .ret e, st, B, h, k => by
    cases st
    case Return o p =>
      cases o with
      | none => exact absurd h Bool.false_ne_true
      | some e' =>
        simp only [chkS] at h
        obtain ⟨h1, h2⟩ := band h
        have i1 := sndE e e' X W sc _ B h1 k.c
        cases fr with
        | false => exact ps_retD i1.1
        | true => exact ps_retD (i1.2.2 h2)
    all_goals (exact absurd h Bool.false_ne_true)
  | .retv i, st, B, h, k => by
    cases st
    case Return o p =>
      cases o with
      | none => exact absurd h Bool.false_ne_true
      | some e' =>
        cases e'
        case Name x p2 =>
          simp only [chkS] at h
          obtain ⟨h, h3⟩ := band h
          obtain ⟨h1, h2⟩ := band h
          obtain ⟨n1, n2⟩ := okName_1 h3
          exact ps_retvD (by rw [k.c.nN]; exact of_decide_eq_true h1) (vis_of (by rw [k.c.sc]; exact h2)) n1 n2
        all_goals (exact absurd h Bool.false_ne_true)
    all_goals (exact absurd h Bool.false_ne_true)
  | .retN, st, B, h, k => by
    cases st
    case Return o p =>
      cases o with
      | none => exact ps_retND
      | some e' => exact absurd h Bool.false_ne_true
    all_goals (exact absurd h Bool.false_ne_true)
  | .ite t a b, st, B, h, k => by
    cases st <;> simp only [chkS] at h
    case If t' a' b' p =>
      obtain ⟨h, h3⟩ := band h
      obtain ⟨h1, h2⟩ := band h
      exact ps_ifD (sndE t t' X W sc _ B h1 k.c).2.1 (sndSL a a' B h2 k) (sndSL b b' B h3 k)
    all_goals cases h
  | .loop tg it body, st, B, h, k => by
    cases st
    case For t' it' body' orelse p =>
      cases orelse with
      | cons => exact absurd h Bool.false_ne_true
      | nil =>
        simp only [chkS] at h
        obtain ⟨h, h4⟩ := band h
        obtain ⟨h, h3⟩ := band h
        obtain ⟨h1, h2⟩ := band h
        exact ps_forD k.c.gk k.po k.c.calm (sndI it it' X W sc _ B t' h2 k.c) (tgB_ok k.c h1) (sndSL body body' B h4 k) (folded_of h3)
    all_goals (exact absurd h Bool.false_ne_true)
  | .while t body, st, B, h, k => by
    cases st
    case While t' body' orelse p =>
      cases orelse with
      | cons => exact absurd h Bool.false_ne_true
      | nil =>
        simp only [chkS] at h
        obtain ⟨h1, h2⟩ := band h
        exact ps_whileD k.po (sndE t t' X W sc _ B h1 k.c).2.1 (sndSL body body' B h2 k)
    all_goals (exact absurd h Bool.false_ne_true)
  | .brk, st, B, h, k => by
    cases st
    case Break p => exact ps_breakD
    all_goals (exact absurd h Bool.false_ne_true)
  | .cnt, st, B, h, k => by
    cases st
    case Continue p => exact ps_contD
    all_goals (exact absurd h Bool.false_ne_true)
  | .pass, st, B, h, k => by
    cases st
    case Pass p => exact ps_passD
    all_goals (exact absurd h Bool.false_ne_true)
  | .raise c, st, B, h, k => by
    cases st
    case Raise o o2 p =>
      cases o with
      | none => exact absurd h Bool.false_ne_true
      | some e =>
        cases o2 with
        | some =>
          cases e <;> first
            | exact absurd h Bool.false_ne_true
            | (rename_i fe es ks p2
               cases fe <;> first
                 | exact absurd h Bool.false_ne_true
                 | (cases es <;> first
                     | exact absurd h Bool.false_ne_true
                     | (cases ks <;> exact absurd h Bool.false_ne_true)))
        | none =>
          cases e
          case Call fe es ks p2 =>
            cases fe
            case Name x p3 =>
              cases es with
              | cons => exact absurd h Bool.false_ne_true
              | nil =>
                cases ks with
                | cons => exact absurd h Bool.false_ne_true
                | nil =>
                  simp only [chkS] at h
                  obtain ⟨h, h4⟩ := band h
                  obtain ⟨h, h3⟩ := band h
                  obtain ⟨h1, h2⟩ := band h
                  have h1 := of_decide_eq_true h1
                  subst h1
                  exact ps_raiseD k.c.gm k.c.calm k.c.tk (k.c.errs x (by simpa using h4)) (k.c.glo h2) (okName_1 h3).1
            all_goals (exact absurd h Bool.false_ne_true)
          all_goals (exact absurd h Bool.false_ne_true)
    all_goals (exact absurd h Bool.false_ne_true)
  | .freeze i, st, B, h, k => by exact absurd h Bool.false_ne_true
  | .forget i, st, B, h, k => by exact absurd h Bool.false_ne_true
theorem sndSL : ∀ (ms : List MStmt) (sts : List Stmt) (B : Store), chkSL C sc fr ms sts = true → Dok X G W C sc cl → PSs X sts (tS G B W fr (SL cl B.length ms))
  | [], sts, B, h, k => by
    cases sts with
    | nil => exact pss_nilD
    | cons => exact absurd h Bool.false_ne_true
  | s :: r, sts, B, h, k => by
    by_cases hf : ∃ i, s = .freeze i
    · obtain ⟨i, rfl⟩ := hf
      have h' : chkSL C sc fr r sts = true := by cases sts <;> simpa only [chkSL] using h
      exact pss_ghost (sndSL r sts B h' k) ghost_freeze
    · by_cases hg : ∃ i, s = .forget i
      · obtain ⟨i, rfl⟩ := hg
        have h' : chkSL C sc fr r sts = true := by cases sts <;> simpa only [chkSL] using h
        exact pss_ghost (sndSL r sts B h' k) ghost_forget
      · cases sts with
        | nil => cases s <;> first | exact absurd ⟨_, rfl⟩ hf | exact absurd ⟨_, rfl⟩ hg | (exact absurd h Bool.false_ne_true)
        | cons st sts =>
          have h' : (chkS C sc fr s st && chkSL C sc fr r sts) = true := by
            cases s <;> first | exact absurd ⟨_, rfl⟩ hf | exact absurd ⟨_, rfl⟩ hg | exact h
          obtain ⟨h1, h2⟩ := band h'
          exact pss_consD (sndS s st B h1 k) (sndSL r sts B h2 k)
end
end
end M
set_option Elab.async false
set_option linter.all false
set_option maxRecDepth 100000
set_option maxHeartbeats 8000000
/-! A def keeps its promise; all defs of a table. -/
namespace M
open PySem PySem.Spec PyProof.Rows L2
section
variable {G : Gx} {Ex : Addr → Prop} {φ φ' : List Addr} {τ τ' : Store} {H H' : Hp} {ρ' : M.Env} {σ' : L2.St}
theorem lts_mono {n m : Nat} (h : n ≤ m) : ∀ {xs : List D}, M.lts n xs → M.lts m xs := by
  have key : (∀ d : D, M.lt n d → M.lt m d) ∧ (∀ xs : List D, M.lts n xs → M.lts m xs) := by
    have k : ∀ d : D, M.lt n d → M.lt m d := D.rec (motive_1 := fun d => M.lt n d → M.lt m d) (motive_2 := fun xs => M.lts n xs → M.lts m xs)
      (by simp [M.lt]) (by simp [M.lt]) (by simp [M.lt]) (by simp [M.lt]) (fun xs ih => by simpa only [M.lt] using ih) (fun xs ih => by simpa only [M.lt] using ih)
      (fun i hi => by simp only [M.lt] at hi ⊢; omega) (by simp [M.lt]) (by simp [M.lts]) (fun d xs h1 h2 hh => by simp only [M.lts] at hh ⊢; exact ⟨h1 hh.1, h2 hh.2⟩)
    refine ⟨k, fun xs => ?_⟩
    induction xs with
    | nil => simp [M.lts]
    | cons d xs ih => intro hh; simp only [M.lts] at hh ⊢; exact ⟨k d hh.1, ih hh.2⟩
  exact fun {xs} => key.2 xs
theorem live_take {n : Nat} {x : Addr} {ψ : List Addr} (e : φ' = φ ++ ψ) (hl : φ.length = n) (h : live φ (τ'.take n) x) : live φ' τ' x := by
  obtain ⟨i, xs, h1, h2⟩ := h
  have hi : i < φ.length := (List.getElem?_eq_some_iff.mp h2).1
  rw [List.getElem?_take_of_lt (by omega)] at h1
  exact ⟨i, xs, h1, by rw [e, List.getElem?_append_left hi]; exact h2⟩
theorem lv_take {n : Nat} {ψ : List Addr} (e : φ' = φ ++ ψ) (hl : φ.length = n) : ∀ x, Lv φ (τ'.take n) Ex x → Lv φ' τ' Ex x := fun x h => h.imp (live_take e hl) id
theorem SR.trunc {n : Nat} {ψ : List Addr} (s : SR G Ex φ' τ' H') (e : φ' = φ ++ ψ) (hl : φ.length = n) (low : Low n τ') : SR G Ex φ (τ'.take n) H' := by
  have up : ∀ {i : Nat} {x : Addr}, φ[i]? = some x → φ'[i]? = some x := fun {i x} h => by rw [e, List.getElem?_append_left (List.getElem?_eq_some_iff.mp h).1]; exact h
  have hz : φ.length ≤ φ'.length := by rw [e, List.length_append]; omega
  have ht : φ'.take n = φ := by rw [e, ← hl]; simp
  refine ⟨by rw [List.length_take, ← s.len]; omega, fun i j x h1 h2 => s.nd i j x (up h1) (up h2), fun i xs x h1 h2 => ?_, fun i x h => s.dom i x (up h), fun x h => ⟨(s.ex x h).1, fun i z => (s.ex x h).2 i (up z)⟩⟩
  have hi : i < φ.length := (List.getElem?_eq_some_iff.mp h2).1
  rw [List.getElem?_take_of_lt (by omega)] at h1
  obtain ⟨vs, e1, r⟩ := s.cell i xs x h1 (up h2)
  have r2 := r.weak (lv_take (Ex := Ex) e hl)
  have r3 := RepL.cut xs vs (low i xs (by omega) h1) r2
  rw [ht] at r3
  exact ⟨vs, e1, r3⟩
theorem SR.low (s : SR G Ex φ τ H) : Low τ.length τ := fun i xs hi h => by
  have hi' : i < φ.length := by rw [s.len]; exact hi
  obtain ⟨vs, _, r⟩ := s.cell i xs φ[i] h (by simp [hi'])
  have := RepL.lts xs vs r
  rw [s.len] at this
  exact this
/-- behind a def's body, as the caller sees it -/
theorem trunc (s0 : SR G Ex φ τ H) (st : Step φ τ H φ' τ' H') (r : R G τ Ex φ' ρ' τ' σ' H') :
    SR G Ex φ (τ'.take τ.length) H' ∧ Step φ τ H φ (τ'.take τ.length) H' ∧ (∀ n, Low n τ → Low n (τ'.take τ.length)) ∧ Low τ.length τ' := by
  obtain ⟨ψ, e⟩ := st.pre
  have low := r.low τ.length (Nat.le_refl _) s0.low
  refine ⟨r.sr.trunc e s0.len low, ⟨⟨[], by simp⟩, st.keep, st.dom, fun x h => st.new x (live_take e s0.len h)⟩, fun n hn i xs hi h => ?_, low⟩
  have h' : τ'[i]? = some (some xs) ∧ i < τ.length := by
    by_cases hi' : i < τ.length
    · rw [List.getElem?_take_of_lt hi'] at h; exact ⟨h, hi'⟩
    · rw [List.getElem?_eq_none (by rw [List.length_take]; omega)] at h; cases h
  by_cases hn' : n ≤ τ.length
  · exact r.low n hn' hn i xs hi h'.1
  · exact lts_mono (by omega) (low i xs h'.2 h'.1)
theorem fin_ok {fr : Bool} {d d' : D} {v : V} (s0 : SR G Ex φ τ H) (st : Step φ τ H φ' τ' H') (r : R G τ Ex φ' ρ' τ' σ' H') (hf : fin τ.length τ' d = some d') (p : PD G fr Ex H φ' τ' H' d v) : PD G fr Ex H φ (τ'.take τ.length) H' d' v := by
  obtain ⟨s1, st1, _, low⟩ := trunc s0 st r
  obtain ⟨ψ, e⟩ := st.pre
  have ht : φ'.take τ.length = φ := by rw [e, ← s0.len]; simp
  have plain : ∀ {d : D}, noRef d = true → Rep G (Lv φ' τ' Ex) φ' H' d v → Rep G (Lv φ (τ'.take τ.length) Ex) φ H' d v := fun {d} hn h => by
    have := Rep.cut (n := τ.length) d v (noRef_lt d hn) (h.weak (lv_take (Ex := Ex) e s0.len))
    rw [ht] at this
    exact this
  unfold fin at hf
  split at hf
  · rename_i m
    have hr := p.1
    simp only [Rep] at hr
    obtain ⟨a, ha, rfl⟩ := hr
    split at hf
    · rename_i hm
      cases hf
      refine PD.nl ?_ (fun _ e => nomatch e)
      simp only [Rep]
      rw [e, List.getElem?_append_left (by rw [s0.len]; exact hm)] at ha
      exact ⟨a, ha, rfl⟩
    · rename_i hm
      split at hf
      · rename_i xs hx
        split at hf
        · rename_i hn
          cases hf
          obtain ⟨vs, hv, rl⟩ := r.sr.cell m xs a hx ha
          have up : ∀ {i : Nat} {x : Addr}, φ[i]? = some x → φ'[i]? = some x := fun {i x} h => by rw [e, List.getElem?_append_left (List.getElem?_eq_some_iff.mp h).1]; exact h
          have nφ : ∀ i : Nat, φ[i]? ≠ some a := fun i hi => by
            have h1 := r.sr.nd i m a (up hi) ha
            have h2 : i < φ.length := (List.getElem?_eq_some_iff.mp hi).1
            rw [s0.len] at h2
            omega
          have nEx : ¬ Ex a := fun z => (r.sr.ex a z).2 m ha
          have nH : H a = none := by
            rcases st.new a ⟨m, xs, hx, ha⟩ with ⟨i, _, _, h2⟩ | h
            · exact absurd h2 (nφ i)
            · exact h
          have mono : ∀ x, Lv φ (τ'.take τ.length) (add1 Ex a) x → Lv φ' τ' Ex x := fun x hx2 => by
            rcases lv_add1.mp hx2 with z | z
            · exact lv_take (Ex := Ex) e s0.len x z
            · subst z; exact .inl ⟨m, xs, hx, ha⟩
          have rl2 : RepL G (Lv φ (τ'.take τ.length) (add1 Ex a)) φ H' xs vs := by
            have := RepL.cut (n := τ.length) xs vs (noRefs_lts xs hn) (rl.weak mono)
            rw [ht] at this
            exact this
          refine ⟨?_, fun _ ys ey => ?_⟩
          · simp only [Rep]
            refine ⟨a, vs, rfl, ?_, .inl hv, rl2.weak lv_mono⟩
            rintro (⟨i, _, _, z⟩ | z)
            · exact nφ i z
            · exact nEx z
          · cases ey
            refine ⟨a, vs, rfl, nH, hv, ⟨s1.len, s1.nd, fun i ys x h1 h2 => ?_, s1.dom, fun x h => ?_⟩, rl2⟩
            · have h1' : τ'[i]? = some (some ys) := by
                have hi : i < φ.length := (List.getElem?_eq_some_iff.mp h2).1
                rw [List.getElem?_take_of_lt (by rw [← s0.len]; exact hi)] at h1; exact h1
              have hi : i < τ.length := by rw [← s0.len]; exact (List.getElem?_eq_some_iff.mp h2).1
              obtain ⟨ws, e3, r3⟩ := r.sr.cell i ys x h1' (up h2)
              have := RepL.cut (n := τ.length) ys ws (low i ys hi h1') (r3.weak mono)
              rw [ht] at this
              exact ⟨ws, e3, this⟩
            · rcases h with h | h
              · exact s1.ex x h
              · subst h; exact ⟨by rw [hv]; simp, nφ⟩
        · cases hf
      · cases hf
  · split at hf
    · rename_i hn
      cases hf
      refine ⟨plain hn p.1, fun hfr xs ex => ?_⟩
      subst ex
      obtain ⟨a, vs, e1, nH, hv, sa, rl⟩ := p.2 hfr xs rfl
      have rl2 := RepL.cut (n := τ.length) xs vs (noRefs_lts xs (by simpa only [noRef] using hn)) (rl.weak (lv_take (Ex := add1 Ex a) e s0.len))
      rw [ht] at rl2
      exact ⟨a, vs, e1, nH, hv, sa.trunc e s0.len low, rl2⟩
    · cases hf
theorem er_start {L : Addr → Prop} {N : List Str} : ∀ {ds : List D} {vs : List V}, ds.length ≤ N.length → RepL G L φ H ds vs → ER G L φ H (startE N ds) (L2.start N vs) := fun {ds vs} hl r => by
  have hz := r.length
  refine ⟨by simp only [startE, L2.start, List.length_append, List.length_map, List.length_replicate]; omega, fun i d h => ?_⟩
  unfold startE at h
  by_cases hi : i < ds.length
  · rw [List.getElem?_append_left (by simpa using hi), List.getElem?_map] at h
    obtain ⟨d', e1, e2⟩ := Option.map_eq_some_iff.mp h
    cases e2
    obtain ⟨v, e3, rv⟩ := r.get e1
    refine ⟨v, ?_, rv⟩
    unfold L2.start
    rw [List.getElem?_append_left (by rw [List.length_map]; omega), List.getElem?_map, e3]; rfl
  · rw [List.getElem?_append_right (by simpa using hi), List.getElem?_replicate] at h
    split at h <;> cases h
end
/-- the table's place -/
structure Place (K : PySem.W.Frag) (mg : Str → Option Value) (G : Gx) (T : Nat → Option Def) (free errs : List Str) (cons : List (Str × D)) : Prop where
  nm : ∀ f d, T f = some d → G.nm f = d.name
  gk : G.K = K
  gm : G.mg = mg
  free : ∀ x, x ∈ free → mg x = none
  errs : ∀ x, x ∈ errs → ∃ C, mg x = some (.ref C) ∧ PySem.W.excIn K C [.type "ValueError", .type "Exception", .type "BaseException", .type "object"] "ValueError.__new__" = true ∧ PySem.W.keepIn K (.ref C) = true ∧
    PySem.W.subIn K (.ref C) (.type "BaseException") = some true ∧ PySem.W.typeIn K (.ref C) = some (.type "type")
  cons : ∀ x d, cons.lookup x = some d → ∃ v u, mg x = some u ∧ RelV v u ∧ ∀ L φ H, Rep G L φ H d v
/-- one def -/
structure DefOk (K : PySem.W.Frag) (mg : Str → Option Value) (T : Nat → Option Def) (free errs : List Str) (cons : List (Str × D)) (df : Def) : Prop where
  ex : ∃ (a : Addr) (fd : FuncData) (params : Arguments) (body : List Stmt) (scope : Scope), FunD K df.name df.name params body scope [] [] a fd ∧ mg df.name = some (.ref a) ∧ Binds K fd (df.N.take df.np) [] ∧ KwB K fd (df.N.take df.np) ∧
    FnScope df.N (df.N.take df.np) scope ∧ df.np ≤ df.N.length ∧ chkSL ⟨T, df.N, free, errs, cons⟩ scope df.fresh df.body body = true
theorem fn_ok {P : Program} {w : World} {K : PySem.W.Frag} {mg : Str → Option Value} {base : Heap} {G : Gx} {T : Nat → Option Def} {free errs : List Str} {cons : List (Str × D)} {cl : Calls} {k : Nat} {df : Def} {a : Addr} {fd : FuncData} {params : Arguments} {body : List Stmt} {scope : Scope}
    (pl : Place K mg G T free errs cons) (F : FunD K df.name df.name params body scope [] [] a fd) (S0 : FnScope df.N (df.N.take df.np) scope) (hnp : df.np ≤ df.N.length) (hc : chkSL ⟨T, df.N, free, errs, cons⟩ scope df.fresh df.body body = true)
    (hf : ∀ f d, T f = some d → ∃ (f' : Addr) (fd' : FuncData), mg d.name = some (.ref f') ∧ PySem.W.keepIn K (.ref f') = true ∧ Binds K fd' (d.N.take d.np) [] ∧ FnOk P w K mg base (L2.CX P w) k f' fd' (d.N.take d.np) (spM G d.fresh (d.N.take d.np).length (cl f)) ∧ KwB K fd' (d.N.take d.np))
    (hne : ∀ f ds τ, cl f ds τ ≠ .stuck → ∃ d, T f = some d ∧ ds.length = (d.N.take d.np).length) :
    FnOk P w K mg base (L2.CX P w) (k + 1) a fd (df.N.take df.np) (spM G df.fresh (df.N.take df.np).length (runDef cl df)) := by
  have hlen : (df.N.take df.np).length = df.np := by rw [List.length_take]; omega
  refine F.ok S0 (fun vs H Q E h => h.1) fun cdv A outer s H vs Q E hr hsp => ?_
  obtain ⟨hl, Ex, φ, τ, ds, sr, rl, hm⟩ := hsp
  let X := cxOf (L2.CX P w) P w K mg base df.N df.name scope a cdv A outer s H E
  have dok : Dok X G (fun cls dd _ H' => E cls dd H') ⟨T, df.N, free, errs, cons⟩ scope cl := by
    refine ⟨⟨pl.gk, pl.gm, takes_of rfl rfl rfl rfl, S0.nd, rfl, rfl, fun _ _ => rfl, rfl, ?_, pl.free, fun f d h => ⟨?_⟩, pl.nm, hne, fun x h => ⟨?_⟩, pl.cons⟩, passes_of rfl, S0.kind⟩
    · have := hr.un
      show (A.deeper _).units + 65 < cLine
      omega
    · obtain ⟨f', fd', h1, h2, h3, h4, h5⟩ := hf f d h
      exact ⟨f', fd', k, h1, h2, h3, hr, h4, h5⟩
    · obtain ⟨C, h1, h2, h3, h4, h5⟩ := pl.errs x h
      exact ⟨C, h1, h2, h3, raises_own h4 h5⟩
  refine ⟨tS G τ (fun cls dd _ H' => E cls dd H') df.fresh (SL cl τ.length df.body), sndSL df.body body τ hc dok, Ex, φ, startE df.N ds, τ, ⟨sr, er_start (by rw [rl.length, hl, hlen]; exact hnp) rl, fun n _ h => h, Nat.le_refl _⟩, ?_⟩
  have hds : ds.length = df.np := by rw [rl.length, hl, hlen]
  unfold runDef at hm
  rw [if_pos hds] at hm
  cases e : SL cl τ.length df.body (startE df.N ds) τ with
  | stuck => rw [e] at hm; exact hm
  | bk ρ' τ' => rw [e] at hm; exact hm.elim
  | ct ρ' τ' => rw [e] at hm; exact hm.elim
  | nx ρ' τ' =>
    rw [e] at hm
    intro φ' σ' H' st R'
    obtain ⟨s1, st1, lw, _⟩ := trunc sr st R'
    exact hm .non H' st1 s1 lw (PD.nl (by simp only [Rep]) fun _ q => nomatch q)
  | rt d τ' =>
    rw [e] at hm
    intro φ' ρ' σ' v H' st R' p
    obtain ⟨s1, st1, lw, _⟩ := trunc sr st R'
    simp only at hm
    cases ef : fin τ.length τ' d with
    | none => rw [ef] at hm; exact hm.elim
    | some d' =>
      rw [ef] at hm
      exact hm v H' st1 s1 lw (fin_ok sr st R' ef p)
  | exc c p ρ' τ' =>
    rw [e] at hm
    intro φ' σ' cls dd H' st R' x
    obtain ⟨s1, st1, lw, _⟩ := trunc sr st R'
    simp only at hm
    by_cases hn : noRef p = true
    · rw [if_pos hn] at hm
      refine hm cls dd H' st1 s1 lw ?_
      obtain ⟨C, h1, h2, h3⟩ := x
      refine ⟨C, h1, h2, ?_⟩
      rcases h3 with h3 | ⟨d, v, e1, e2, r⟩
      · exact .inl h3
      · obtain ⟨ψ, eψ⟩ := st.pre
        have ht : φ'.take τ.length = φ := by rw [eψ, ← sr.len]; simp
        have := Rep.cut (n := τ.length) p v (noRef_lt p hn) (r.weak (lv_take (Ex := Ex) eψ sr.len))
        rw [ht] at this
        exact .inr ⟨d, v, e1, e2, this⟩
    · rw [if_neg hn] at hm; exact hm.elim
theorem call_ne {K : PySem.W.Frag} {mg : Str → Option Value} {T : Nat → Option Def} {free errs : List Str} {cons : List (Str × D)} (hT : ∀ f d, T f = some d → DefOk K mg T free errs cons d) : ∀ (k f : Nat) (ds : List D) (τ : Store), M.call T k f ds τ ≠ .stuck → ∃ d, T f = some d ∧ ds.length = (d.N.take d.np).length
  | 0, f, ds, τ, h => absurd rfl h
  | k + 1, f, ds, τ, h => by
    cases e : T f with
    | none =>
      exfalso
      apply h
      show (match T f with | some df => runDef (M.call T k) df ds τ | none => .stuck) = _
      rw [e]
    | some d =>
      obtain ⟨a, fd, params, body, scope, F, h1, h2, _, S0, hnp, hc⟩ := (hT f d e).ex
      refine ⟨d, rfl, ?_⟩
      rw [List.length_take, Nat.min_eq_left hnp]
      have h : runDef (M.call T k) d ds τ ≠ .stuck := fun z => h (by
        show (match T f with | some df => runDef (M.call T k) df ds τ | none => .stuck) = _
        rw [e]; exact z)
      unfold runDef at h
      by_cases hd : ds.length = d.np
      · exact hd
      · rw [if_neg hd] at h; exact absurd rfl h
/-- every def of the table, at every depth -/
theorem all_ok {P : Program} {w : World} {K : PySem.W.Frag} {mg : Str → Option Value} {base : Heap} {G : Gx} {T : Nat → Option Def} {free errs : List Str} {cons : List (Str × D)} (pl : Place K mg G T free errs cons)
    (hT : ∀ f d, T f = some d → DefOk K mg T free errs cons d) : ∀ (k f : Nat) (d : Def), T f = some d → ∃ (f' : Addr) (fd' : FuncData), mg d.name = some (.ref f') ∧ PySem.W.keepIn K (.ref f') = true ∧ Binds K fd' (d.N.take d.np) [] ∧
      FnOk P w K mg base (L2.CX P w) k f' fd' (d.N.take d.np) (spM G d.fresh (d.N.take d.np).length (M.call T k f)) ∧ KwB K fd' (d.N.take d.np)
  | 0, f, d, h => by
    obtain ⟨a, fd, params, body, scope, F, h1, h2, hkw, _⟩ := (hT f d h).ex
    refine ⟨a, fd, h1, F.kp, h2, ⟨fun vs H Q E h => h.1, fun A outer s H args us vs Q E hr he hb hv hs => ?_⟩, hkw⟩
    obtain ⟨_, Ex, φ, τ, ds, _, _, hm⟩ := hs
    exact hm.elim
  | k + 1, f, d, h => by
    obtain ⟨a, fd, params, body, scope, F, h1, h2, hkw, S0, hnp, hc⟩ := (hT f d h).ex
    have ih := all_ok (P := P) (w := w) (base := base) pl hT k
    have := fn_ok (P := P) (w := w) (base := base) (cl := M.call T k) pl F S0 hnp hc ih (call_ne hT k)
    refine ⟨a, fd, h1, F.kp, h2, ?_, hkw⟩
    have e : M.call T (k + 1) f = runDef (M.call T k) d := by
      funext ds τ
      show (match T f with | some df => runDef (M.call T k) df ds τ | none => .stuck) = _
      rw [h]
    rw [e]
    exact this
end M
set_option Elab.async false
set_option linter.all false
set_option maxRecDepth 100000
set_option maxHeartbeats 4000000
/-! A law's end. -/
namespace M
open PySem PySem.Spec PyProof.Rows L2
def noLst (K : PySem.W.Frag) : Bool := K.all fun p => !(p.2.cls == .type "list")
theorem sqL_rd {K : PySem.W.Frag} (h : noLst K = true) {H : Hp} {a : Addr} {xs : List V} (s : SqL K H a xs) : Rd H a (.lst xs) := by
  rcases s with s | ⟨o, its, n, e, ec, _⟩
  · exact s
  · have := List.all_eq_true.mp h _ (He.lookup_mem e)
    rw [ec] at this
    exact absurd this (by decide)
def CXw (P : Program) : CXT := fun outer H s E e s' => ∃ w, L2.CX P w outer H s E e s'
theorem fn_cxw {P : Program} {w : World} {K : PySem.W.Frag} {mg : Str → Option Value} {base : Heap} {k : Nat} {f : Addr} {fd : FuncData} {ps : List Str} {sp : Sp} (F : FnOk P w K mg base (L2.CX P w) k f fd ps sp) : FnOk P w K mg base (CXw P) k f fd ps sp :=
  ⟨F.len, fun A outer s H args us vs Q E hr he hb hv hs => codeAny_mono (F.run A outer s H args us vs Q E hr he hb hv hs) fun r s' h => by
    unfold L2.CR at h ⊢
    split at h
    · exact h
    · exact h.elim
    · exact ⟨w, h⟩⟩
def spLaw : Sp := fun vs H Q _ => ∃ (a : Addr) (ns : List Int), ns.length ≤ 63 ∧ vs = [.ref a] ∧ Rd H a (.lst (ns.map V.int)) ∧ ∀ H', Q (.bl true) H'
theorem repl_ints {G : Gx} {L : Addr → Prop} {φ : List Addr} {H : Hp} : ∀ ns : List Int, RepL G L φ H (ns.map D.int) (ns.map V.int)
  | [] => by simp only [List.map_nil, RepL]
  | n :: ns => by
    simp only [List.map_cons, RepL]
    exact ⟨_, _, rfl, by simp only [Rep], repl_ints ns⟩
theorem sp_law {G : Gx} {T : Nat → Option Def} {k f : Nat} {fr : Bool} (hcall : ∀ ns : List Int, ns.length ≤ 63 → M.call T k f [.lst (ns.map .int)] [] = .ok (.bl true, [])) (vs : List V) (H : Hp) (Q : VK) (E : XK) (h : spLaw vs H Q E) : spM G fr 1 (M.call T k f) vs H Q E := by
  obtain ⟨a, ns, hl, rfl, hr, hQ⟩ := h
  refine ⟨rfl, fun _ => False, [], [], [.lst (ns.map .int)], ⟨rfl, fun i j x h => by simp at h, fun i xs x h => by simp at h, fun i x h => by simp at h, fun x h => h.elim⟩, ?_, ?_⟩
  · simp only [RepL, Rep]
    refine ⟨_, _, rfl, ⟨a, _, rfl, ?_, hr, repl_ints ns⟩, rfl⟩
    rintro (⟨n, xs, h, _⟩ | h)
    · simp at h
    · exact h
  · rw [hcall ns hl]
    intro v H' _ _ _ p
    have := p.1
    simp only [Rep] at this
    rw [this]
    exact hQ H'
theorem cons_all {P : Str → D → Prop} : ∀ {l : List (Str × D)}, (∀ p ∈ l, P p.1 p.2) → ∀ x d, l.lookup x = some d → P x d
  | [], _, x, d, h => by simp at h
  | (y, e) :: l, hp, x, d, h => by
    rw [List.lookup_cons] at h
    split at h
    · rename_i hx
      cases h
      have := hp _ List.mem_cons_self
      rw [eq_of_beq hx]; exact this
    · exact cons_all (fun p q => hp p (List.mem_cons_of_mem _ q)) x d h
def nmT (T : Nat → Option Def) (f : Nat) : Str := match T f with
  | some d => d.name
  | none => ""
theorem saysD_of {fa : List He.Fa} {fn : List He.DefD} {ex : PySem.W.Frag → Bool} {w : World} {h : Heap} {K : PySem.W.Frag} (c : He.SaysX fa fn [] [] ex w h K) : He.SaysD fa fn K := congrArg Prod.fst c.t
theorem law_F {P : Program} {w : World} {K : PySem.W.Frag} {mg : Str → Option Value} {h : Heap} {fa' : Addr} {T : Nat → Option Def} {free errs : List Str} {cons : List (Str × D)} {f k : Nat} {d : Def} {fd : FuncData} {params : Arguments} {body : List Stmt} {scope : Scope} (nl : noLst K = true) (KX : K.In h)
    (eT : T f = some d) (hnp1 : d.np = 1) (eps : d.N.take d.np = (["script"] : List Str)) (pl : Place K mg ⟨K, mg, nmT T⟩ T free errs cons) (hT : ∀ f d, T f = some d → DefOk K mg T free errs cons d)
    (F : FunD K d.name d.name params body scope [] [] fa' fd) (S0 : FnScope d.N (d.N.take d.np) scope) (hnp : d.np ≤ d.N.length) (hc : chkSL ⟨T, d.N, free, errs, cons⟩ scope d.fresh d.body body = true) (hb : ∀ (s : Shared) (us : List Value), us.length = (["script"] : List Str).length → BindsTo s fd { pos := us } ((["script"] : List Str).zip us))
    (hcall : ∀ ns : List Int, ns.length ≤ 63 → M.call T (k + 1) f [.lst (ns.map .int)] [] = .ok (.bl true, [])) :
    ∃ (K' : PySem.W.Frag) (fd : FuncData) (sp : Sp), K'.In h ∧ (∀ (s : Shared) (u : Value), BindsTo s fd { pos := [u] } [(("script" : Str), u)]) ∧
      (∀ (H : Hp) (a : Addr) (ns : List Int), ns.length ≤ 63 → Only H → SqL K' H a (List.map V.int ns) → sp [V.ref a] H (fun v x => v = V.bl true) fun x x_1 x_2 => False) ∧
        ∀ base : Heap, K'.In base → base.Ns mainGlobals mg → FnOk P w K' mg base (CXw P) (k + 1) fa' fd ["script"] sp := by
  refine ⟨K, fd, spLaw, KX, fun s u => hb s [u] rfl, fun H a ns hl _ hs => ⟨a, ns, hl, rfl, sqL_rd nl hs, fun _ => rfl⟩, fun base _ _ => ?_⟩
  have e : M.call T (k + 1) f = runDef (M.call T k) d := by
    funext ds τ
    show (match T f with | some df => runDef (M.call T k) df ds τ | none => .stuck) = _
    rw [eT]
  have h1 := fn_cxw (fn_ok (P := P) (w := w) (base := base) (cl := M.call T k) pl F S0 hnp hc (all_ok pl hT k) (call_ne hT k))
  rw [eps, ← e] at h1
  exact h1.imp fun vs H Q E hs => sp_law hcall vs H Q E hs
end M
set_option Elab.async false
set_option linter.all false
set_option maxRecDepth 100000
set_option maxHeartbeats 4000000
namespace M
open PySem
def D_is_number : Def := ⟨"is_number", ["thing"], 1, false, [
    .ret (.band (.cons (.isi (.var 0) [.int]) (.cons (.bnot (.isi (.var 0) [.bool])) .nil)))]⟩
def D_is_long : Def := ⟨"is_long", ["thing", "length"], 2, false, [
    .ret (.band (.cons (.isi (.var 0) [.tuple]) (.cons (.cmp .eq (.blt .len (.var 0)) (.var 1)) .nil)))]⟩
def D_are_numbers : Def := ⟨"are_numbers", ["thing", "own"], 1, false, [
    .ret (.band (.cons (.isi (.var 0) [.tuple]) (.cons (.blt .all (.lc (.call 21 (.cons (.var 1) .nil)) (.n 1) (.over (.var 0)) .none [("own", 1)])) .nil)))]⟩
def D_ascends : Def := ⟨"ascends", ["row", "one", "other"], 1, true, [
    .ret (.blt .all (.lc (.cmp .lt (.var 1) (.var 2)) (.t [1, 2]) (.zip (.var 0) (.slice (.var 0) (.some (.con (.int 1))) .none)) .none [("one", 1), ("other", 2)]))]⟩
def D_tupled : Def := ⟨"tupled", ["value", "own"], 1, false, [
    .ret (.ite (.isi (.var 0) [.list, .tuple]) (.blt .tuple (.lc (.call 27 (.cons (.var 1) .nil)) (.n 1) (.over (.var 0)) .none [("own", 1)])) (.var 0))]⟩
def D_joined : Def := ⟨"joined", ["rows", "found", "own"], 1, true, [
    .asg (.n 1) (.alloc (.lst .nil)),
    .loop (.n 2) (.over (.var 0)) [.expr (.mut .extend (.var 1) (.var 2))],
    .retv 1]⟩
def D_is_parting : Def := ⟨"is_parting", ["thing", "many", "own", "one", "other"], 1, false, [
    .ite (.bor (.cons (.bnot (.isi (.var 0) [.tuple])) (.cons (.bnot (.blt .all (.lc (.band (.cons (.call 25 (.cons (.var 2) .nil)) (.cons (.cmp .ne (.var 2) (.tup .nil)) (.cons (.call 26 (.cons (.var 2) .nil)) .nil)))) (.n 2) (.over (.var 0)) .none [("own", 2)]))) .nil))) [.ret (.con (.bl false))] [],
    .asg (.n 1) (.blt .sum (.lc (.blt .len (.var 2)) (.n 2) (.over (.var 0)) .none [("own", 2)])),
    .ite (.bor (.cons (.cmp .gt (.var 1) (.glob "MOST_THINGS" (.int 30))) (.cons (.cmp .ne (.blt .sorted (.lc2 (.var 3) (.n 2) (.over (.var 0)) .none (.n 3) (.over (.var 2)) .none [("own", 2), ("one", 3)] [3])) (.lrange2 false (.con (.int 1)) (.bin .add (.var 1) (.con (.int 1))))) .nil))) [.ret (.con (.bl false))] [],
    .ret (.blt .all (.lc (.cmp .lt (.idx (.var 3) (.con (.int 0))) (.idx (.var 4) (.con (.int 0)))) (.t [3, 4]) (.zip (.var 0) (.slice (.var 0) (.some (.con (.int 1))) .none)) .none [("one", 3), ("other", 4)]))]⟩
def D_sure_parting : Def := ⟨"sure_parting", ["value", "own"], 1, false, [
    .asg (.n 1) (.call 27 (.cons (.var 0) .nil)),
    .ite (.bnot (.call 29 (.cons (.var 1) .nil))) [.raise "Unfit"] [],
    .ret (.var 1)]⟩
def D_size_in : Def := ⟨"size_in", ["parting", "own"], 1, true, [
    .ret (.blt .sum (.lc (.blt .len (.var 1)) (.n 1) (.over (.var 0)) .none [("own", 1)]))]⟩
def D_arcs_in : Def := ⟨"arcs_in", ["parting", "own"], 1, true, [
    .ret (.blt .tuple (.blt .sorted (.call 28 (.cons (.lc (.lzip (.var 1) (.slice (.var 1) (.some (.con (.int 1))) .none)) (.n 1) (.over (.var 0)) .none [("own", 1)]) .nil))))]⟩
def D_are_arcs_in : Def := ⟨"are_arcs_in", ["many", "thing", "lefts", "rights", "own", "one", "other"], 2, false, [
    .ite (.bor (.cons (.bnot (.isi (.var 1) [.tuple])) (.cons (.bnot (.blt .all (.lc (.band (.cons (.call 24 (.cons (.var 4) (.cons (.con (.int 2)) .nil))) (.cons (.call 25 (.cons (.var 4) .nil)) .nil))) (.n 4) (.over (.var 1)) .none [("own", 4)]))) .nil))) [.ret (.con (.bl false))] [],
    .ite (.bnot (.blt .all (.lc (.cmp3 .le .lt .le (.con (.int 1)) (.idx (.var 4) (.con (.int 0))) (.idx (.var 4) (.con (.int 1))) (.var 0)) (.n 4) (.over (.var 1)) .none [("own", 4)]))) [.ret (.con (.bl false))] [],
    .asg (.t [2, 3]) (.tup (.cons (.lc (.idx (.var 4) (.con (.int 0))) (.n 4) (.over (.var 1)) .none [("own", 4)]) (.cons (.lc (.idx (.var 4) (.con (.int 1))) (.n 4) (.over (.var 1)) .none [("own", 4)]) .nil))),
    .ret (.band (.cons (.blt .all (.lc (.cmp .lt (.var 5) (.var 6)) (.t [5, 6]) (.zip (.var 2) (.slice (.var 2) (.some (.con (.int 1))) .none)) .none [("one", 5), ("other", 6)])) (.cons (.cmp .eq (.lenset (.var 3)) (.blt .len (.var 3))) .nil)))]⟩
def D_arcs_of : Def := ⟨"arcs_of", ["parting"], 1, true, [
    .ret (.call 32 (.cons (.call 30 (.cons (.var 0) .nil)) .nil))]⟩
def D_do_cross : Def := ⟨"do_cross", ["one", "other"], 2, false, [
    .ret (.bor (.cons (.cmp3 .lt .lt .lt (.idx (.var 0) (.con (.int 0))) (.idx (.var 1) (.con (.int 0))) (.idx (.var 0) (.con (.int 1))) (.idx (.var 1) (.con (.int 1)))) (.cons (.cmp3 .lt .lt .lt (.idx (.var 1) (.con (.int 0))) (.idx (.var 0) (.con (.int 0))) (.idx (.var 1) (.con (.int 1))) (.idx (.var 0) (.con (.int 1)))) .nil)))]⟩
def D_is_nested : Def := ⟨"is_nested", ["one", "other"], 2, false, [
    .ret (.bor (.cons (.band (.cons (.cmp .lt (.idx (.var 0) (.con (.int 0))) (.idx (.var 1) (.con (.int 0)))) (.cons (.cmp .lt (.idx (.var 1) (.con (.int 1))) (.idx (.var 0) (.con (.int 1)))) .nil))) (.cons (.band (.cons (.cmp .lt (.idx (.var 1) (.con (.int 0))) (.idx (.var 0) (.con (.int 0)))) (.cons (.cmp .lt (.idx (.var 0) (.con (.int 1))) (.idx (.var 1) (.con (.int 1)))) .nil))) .nil)))]⟩
def D_pairs_of : Def := ⟨"pairs_of", ["rows", "place", "one", "other"], 1, true, [
    .ret (.lc2 (.tup (.cons (.var 2) (.cons (.var 3) .nil))) (.t [1, 2]) (.enum (.var 0)) .none (.n 3) (.over (.slice (.var 0) (.some (.bin .add (.var 1) (.con (.int 1)))) .none)) .none [("place", 1), ("one", 2), ("other", 3)] [3])]⟩
def D_count_in : Def := ⟨"count_in", ["arcs", "way", "test", "one", "other"], 2, true, [
    .asg (.n 2) (.ite (.cmp .eq (.var 1) (.glob "CROSSING" (.int 1))) (.glob "do_cross" (.fn 63)) (.glob "is_nested" (.fn 64))),
    .ret (.blt .len (.lc (.con (.int 1)) (.t [3, 4]) (.over (.call 65 (.cons (.var 0) .nil))) (.some (.callv 2 (.cons (.var 3) (.cons (.var 4) .nil)))) [("one", 3), ("other", 4)]))]⟩
def D_longest_over : Def := ⟨"longest_over", ["arcs", "spot", "way", "rows", "found", "own", "goods", "line"], 3, false, [
    .asg (.t [3, 4]) (.tup (.cons (.lc (.var 5) (.n 5) (.over (.var 0)) (.some (.cmp2 .le .lt (.idx (.var 5) (.con (.int 0))) (.var 1) (.idx (.var 5) (.con (.int 1))))) [("own", 5)]) (.cons (.alloc (.lst .nil)) .nil))),
    .loop (.n 5) (.over (.var 3)) [.asg (.n 6) (.lc (.bin .add (.var 7) (.tup (.cons (.var 5) .nil))) (.n 7) (.over (.var 4)) (.some (.cmp .gt (.bin .mul (.bin .sub (.idx (.var 5) (.con (.int 1))) (.idx (.idx (.var 7) (.neg (.con (.int 1)))) (.con (.int 1)))) (.var 2)) (.con (.int 0)))) [("line", 7)]), .expr (.mut .append (.var 4) (.idx (.blt .min (.lc (.tup (.cons (.neg (.blt .len (.var 7))) (.cons (.var 7) .nil))) (.n 7) (.over (.bin .add (.var 6) (.lst (.cons (.tup (.cons (.var 5) .nil)) .nil)))) .none [("line", 7)])) (.con (.int 1))))],
    .ret (.idx (.blt .min (.lc (.tup (.cons (.neg (.blt .len (.var 7))) (.cons (.var 7) .nil))) (.n 7) (.over (.bin .add (.var 4) (.lst (.cons (.tup .nil) .nil)))) .none [("line", 7)])) (.con (.int 1)))]⟩
def D_most_in : Def := ⟨"most_in", ["arcs", "many", "way", "rows", "spot", "line"], 3, false, [
    .asg (.n 3) (.lc (.call 67 (.cons (.var 0) (.cons (.var 4) (.cons (.var 2) .nil)))) (.n 4) (.range2 (.con (.int 1)) (.bin .add (.var 1) (.con (.int 1)))) .none [("spot", 4)]),
    .ret (.idx (.blt .min (.lc (.tup (.cons (.neg (.blt .len (.var 5))) (.cons (.var 5) .nil))) (.n 5) (.over (.bin .add (.var 3) (.lst (.cons (.tup .nil) .nil)))) .none [("line", 5)])) (.con (.int 1)))]⟩
def D_all_do : Def := ⟨"all_do", ["arcs", "way", "test", "one", "other"], 2, true, [
    .asg (.n 2) (.ite (.cmp .eq (.var 1) (.glob "CROSSING" (.int 1))) (.glob "do_cross" (.fn 63)) (.glob "is_nested" (.fn 64))),
    .ret (.blt .all (.lc (.callv 2 (.cons (.var 3) (.cons (.var 4) .nil))) (.t [3, 4]) (.over (.call 65 (.cons (.var 0) .nil))) .none [("one", 3), ("other", 4)]))]⟩
def D_is_lot_in : Def := ⟨"is_lot_in", ["parting", "thing", "way", "arcs", "own"], 3, false, [
    .ite (.bnot (.call 34 (.cons (.call 31 (.cons (.var 0) .nil)) (.cons (.var 1) .nil)))) [.ret (.con (.bl false))] [],
    .asg (.n 3) (.call 32 (.cons (.var 0) .nil)),
    .ret (.band (.cons (.blt .all (.lc (.cmp .in_ (.var 4) (.var 3)) (.n 4) (.over (.var 1)) .none [("own", 4)])) (.cons (.call 69 (.cons (.var 1) (.cons (.var 2) .nil))) .nil)))]⟩
def D_crossings : Def := ⟨"crossings", ["parting"], 1, true, [
    .ret (.call 66 (.cons (.call 32 (.cons (.call 30 (.cons (.var 0) .nil)) .nil)) (.cons (.glob "CROSSING" (.int 1)) .nil)))]⟩
def D_nestings : Def := ⟨"nestings", ["parting"], 1, true, [
    .ret (.call 66 (.cons (.call 32 (.cons (.call 30 (.cons (.var 0) .nil)) .nil)) (.cons (.glob "NESTED" (.int (-1))) .nil)))]⟩
def D_most_crossing : Def := ⟨"most_crossing", ["parting", "own"], 1, false, [
    .asg (.n 1) (.call 30 (.cons (.var 0) .nil)),
    .ret (.call 68 (.cons (.call 32 (.cons (.var 1) .nil)) (.cons (.call 31 (.cons (.var 1) .nil)) (.cons (.glob "CROSSING" (.int 1)) .nil))))]⟩
def D_most_nested : Def := ⟨"most_nested", ["parting", "own"], 1, false, [
    .asg (.n 1) (.call 30 (.cons (.var 0) .nil)),
    .ret (.call 68 (.cons (.call 32 (.cons (.var 1) .nil)) (.cons (.call 31 (.cons (.var 1) .nil)) (.cons (.glob "NESTED" (.int (-1))) .nil))))]⟩
def D_all_cross : Def := ⟨"all_cross", ["parting", "thing"], 2, false, [
    .ret (.call 70 (.cons (.call 30 (.cons (.var 0) .nil)) (.cons (.var 1) (.cons (.glob "CROSSING" (.int 1)) .nil))))]⟩
def D_all_nested : Def := ⟨"all_nested", ["parting", "thing"], 2, false, [
    .ret (.call 70 (.cons (.call 30 (.cons (.var 0) .nil)) (.cons (.var 1) (.cons (.glob "NESTED" (.int (-1))) .nil))))]⟩
def D__law_box_3 : Def := ⟨"_law_box", ["script", "k", "bit_so"], 2, true, [
    .asg (.n 2) (.ite (.cmp .lt (.var 1) (.blt .len (.var 0))) (.idx (.var 0) (.var 1)) (.con (.int 0))),
    .ret (.lst (.cons (.bin .mul (.blt .abs (.var 2)) (.blt .int (.cmp .ge (.blt .abs (.var 2)) (.bin .pow (.con (.int 10)) (.con (.int 18)))))) (.cons (.bin .add (.bin .add (.bin .mod (.blt .int (.var 2)) (.con (.int 2305843009213693951))) (.bin .mul (.con (.int 39373)) (.var 1))) (.con (.int 26306002))) (.cons (.con (.int 0)) .nil))))]⟩
def D__law_take : Def := ⟨"_law_take", ["tin", "below_so", "drawn_so", "once_so", "wide_so", "twice_so"], 2, false, [
    .ite (.cmp .gt (.idx (.var 0) (.con (.int 0))) (.con (.int 0))) [.asg (.n 2) (.bin .mod (.blt .int (.idx (.var 0) (.con (.int 0)))) (.var 1)), .setidx (.var 0) (.con (.int 0)) (.bin .fdiv (.idx (.var 0) (.con (.int 0))) (.var 1)), .ret (.var 2)] [],
    .setidx (.var 0) (.con (.int 2)) (.bin .add (.idx (.var 0) (.con (.int 2))) (.con (.int 1))),
    .asg (.n 3) (.bin .mod (.blt .int (.bin .mul (.bin .add (.idx (.var 0) (.con (.int 1))) (.bin .mul (.con (.int 48271)) (.idx (.var 0) (.con (.int 2))))) (.bin .add (.con (.int 39373)) (.idx (.var 0) (.con (.int 2)))))) (.con (.int 2147483647))),
    .asg (.n 4) (.bin .add (.bin .mod (.blt .int (.var 3)) (.con (.int 40009))) (.con (.int 7))),
    .asg (.n 5) (.bin .mod (.blt .int (.bin .mul (.bin .add (.bin .add (.var 3) (.idx (.var 0) (.con (.int 2)))) (.bin .fdiv (.idx (.var 0) (.con (.int 1))) (.con (.int 1000003)))) (.var 4))) (.con (.int 2147483629))),
    .ret (.bin .mod (.blt .int (.bin .fdiv (.bin .mod (.blt .int (.bin .add (.bin .mul (.var 5) (.con (.int 48271))) (.var 3))) (.con (.int 2147483587))) (.con (.int 64)))) (.var 1))]⟩
def D__law_cells : Def := ⟨"_law_cells", ["script", "most_so", "cells_so", "k", "bit_so", "at_so"], 2, true, [
    .asg (.n 2) (.alloc (.bor (.cons (.blt .list (.slice (.var 0) .none (.some (.var 1)))) (.cons (.lst (.cons (.con (.int 0)) .nil)) .nil)))),
    .loop (.t [3, 4]) (.enum (.slice (.var 0) (.some (.var 1)) (.some (.con (.int 63))))) [.asg (.n 5) (.bin .mod (.blt .int (.var 3)) (.var 1)), .setidx (.var 2) (.var 5) (.bin .add (.idx (.var 2) (.var 5)) (.bin .mul (.var 4) (.bin .add (.var 3) (.con (.int 2)))))],
    .retv 2]⟩
def D__law_of : Def := ⟨"_law_of", ["tin", "goods_so"], 2, false, [
    .ret (.idx (.var 1) (.call 9 (.cons (.var 0) (.cons (.blt .len (.var 1)) .nil))))]⟩
def D__law_pick : Def := ⟨"_law_pick", ["tin", "goods_so", "count_so", "pool_so", "found", "lap"], 3, true, [
    .asg (.t [3, 4]) (.tup (.cons (.alloc (.blt .list (.var 1))) (.cons (.alloc (.lst .nil)) .nil))),
    .loop (.n 5) (.range1 (.mm2 false (.blt .int (.var 2)) (.blt .len (.var 3)))) [.expr (.mut .append (.var 4) (.mut .popAt (.var 3) (.call 9 (.cons (.var 0) (.cons (.blt .len (.var 3)) .nil)))))],
    .retv 4]⟩
def D__law_lists : Def := ⟨"_law_lists", ["matter", "bit"], 1, false, [
    .ret (.ite (.isi (.var 0) [.list, .tuple]) (.lc (.call 51 (.cons (.var 1) .nil)) (.n 1) (.over (.var 0)) .none [("bit", 1)]) (.var 0))]⟩
def D__law_same : Def := ⟨"_law_same", ["got", "due", "mine", "its"], 2, false, [
    .ite (.isi (.var 1) [.list, .tuple]) [.ite (.bor (.cons (.cmp .ne (.isi (.var 0) [.list]) (.isi (.var 1) [.list])) (.cons (.cmp .ne (.isi (.var 0) [.tuple]) (.isi (.var 1) [.tuple])) .nil))) [.ret (.con (.bl false))] [], .ret (.band (.cons (.cmp .eq (.blt .len (.var 0)) (.blt .len (.var 1))) (.cons (.blt .all (.lc (.call 13 (.cons (.var 2) (.cons (.var 3) .nil))) (.t [2, 3]) (.zip (.var 0) (.var 1)) .none [("mine", 2), ("its", 3)])) .nil)))] [],
    .ite (.cmp .is_ (.var 1) (.con .non)) [.ret (.cmp .is_ (.var 0) (.con .non))] [],
    .ite (.isi (.var 1) [.bool, .str]) [.ret (.band (.cons (.cmp .eq (.isi (.var 0) [.bool]) (.isi (.var 1) [.bool])) (.cons (.cmp .eq (.isi (.var 0) [.str]) (.isi (.var 1) [.str])) (.cons (.cmp .eq (.var 0) (.var 1)) .nil))))] [],
    .ret (.band (.cons (.isi (.var 0) [.int]) (.cons (.bnot (.isi (.var 0) [.bool])) (.cons (.cmp .eq (.var 0) (.var 1)) .nil))))]⟩
def D__law_flat : Def := ⟨"_law_flat", ["rows_so", "found", "own"], 1, true, [
    .asg (.n 1) (.alloc (.lst .nil)),
    .loop (.n 2) (.over (.var 0)) [.expr (.mut .extend (.var 1) (.var 2))],
    .retv 1]⟩
def D__law_parting : Def := ⟨"_law_parting", ["tin", "most_so", "lots_so", "few_so", "k", "spot_so"], 2, true, [
    .asg (.t [2, 3]) (.tup (.cons (.alloc (.lst .nil)) (.cons (.call 11 (.cons (.var 0) (.cons (.lst (.cons (.con (.int 2)) (.cons (.con (.int 3)) (.cons (.con (.int 9)) .nil)))) .nil))) .nil))),
    .loop (.n 4) (.range2 (.con (.int 1)) (.bin .add (.call 9 (.cons (.var 0) (.cons (.bin .add (.var 1) (.con (.int 1))) .nil))) (.con (.int 1)))) [.asg (.n 5) (.call 9 (.cons (.var 0) (.cons (.blt .min (.lst (.cons (.bin .add (.blt .len (.var 2)) (.con (.int 1))) (.cons (.var 3) .nil)))) .nil))), .ite (.cmp .lt (.var 5) (.blt .len (.var 2))) [.asg (.n 5) (.call 9 (.cons (.var 0) (.cons (.blt .len (.var 2)) .nil))), .setidx (.var 2) (.var 5) (.bin .add (.idx (.var 2) (.var 5)) (.tup (.cons (.var 4) .nil)))] [.expr (.mut .append (.var 2) (.tup (.cons (.var 4) .nil)))]],
    .ret (.blt .tuple (.var 2))]⟩
def D__law_pairing : Def := ⟨"_law_pairing", ["tin", "most_so", "left_so", "found", "lap", "other_so", "k"], 2, true, [
    .asg (.t [2, 3]) (.tup (.cons (.lrange2 false (.con (.int 1)) (.bin .add (.bin .mul (.con (.int 2)) (.call 9 (.cons (.var 0) (.cons (.bin .add (.var 1) (.con (.int 1))) .nil)))) (.con (.int 1)))) (.cons (.alloc (.lst .nil)) .nil))),
    .loop (.n 4) (.range1 (.var 1)) [.ite (.cmp .ne (.var 2) (.lst .nil)) [.asg (.n 5) (.call 11 (.cons (.var 0) (.cons (.slice (.var 2) (.some (.con (.int 1))) .none) .nil))), .expr (.mut .append (.var 3) (.tup (.cons (.idx (.var 2) (.con (.int 0))) (.cons (.var 5) .nil)))), .asg (.n 2) (.lc (.var 6) (.n 6) (.over (.slice (.var 2) (.some (.con (.int 1))) .none)) (.some (.cmp .ne (.var 6) (.var 5))) [("k", 6)])] []],
    .ret (.blt .tuple (.var 3))]⟩
def D__law_arcs : Def := ⟨"_law_arcs", ["parting_so", "found", "own", "k"], 1, true, [
    .asg (.n 1) (.alloc (.lst .nil)),
    .loop (.n 2) (.over (.var 0)) [.expr (.mut .extend (.var 1) (.lc (.tup (.cons (.idx (.var 2) (.var 3)) (.cons (.idx (.var 2) (.bin .add (.var 3) (.con (.int 1)))) .nil))) (.n 3) (.range1 (.bin .sub (.blt .len (.var 2)) (.con (.int 1)))) .none [("k", 3)]))],
    .ret (.blt .sorted (.var 1))]⟩
def D__law_pairs : Def := ⟨"_law_pairs", ["rows_so", "a", "b"], 1, true, [
    .ret (.call 78 (.cons (.lc (.lc (.tup (.cons (.idx (.var 0) (.var 1)) (.cons (.idx (.var 0) (.var 2)) .nil))) (.n 2) (.range2 (.bin .add (.var 1) (.con (.int 1))) (.blt .len (.var 0))) .none [("b", 2)]) (.n 1) (.range1 (.blt .len (.var 0))) .none [("a", 1)]) .nil))]⟩
def D__law_do : Def := ⟨"_law_do", ["one", "two", "way_so", "near_so", "far_so", "row_so"], 3, false, [
    .ite (.cmp .lt (.lenset (.bin .add (.var 0) (.var 1))) (.con (.int 4))) [.ret (.con (.bl false))] [],
    .asg (.t [3, 4]) (.ite (.cmp .lt (.idx (.var 0) (.con (.int 0))) (.idx (.var 1) (.con (.int 0)))) (.tup (.cons (.var 0) (.cons (.var 1) .nil))) (.tup (.cons (.var 1) (.cons (.var 0) .nil)))),
    .asg (.n 5) (.blt .sorted (.bin .add (.var 0) (.var 1))),
    .ret (.cmp .eq (.tup (.cons (.var 3) (.cons (.var 4) .nil))) (.tup (.cons (.tup (.cons (.idx (.var 5) (.con (.int 0))) (.cons (.idx (.var 5) (.ite (.cmp .eq (.var 2) (.con (.int 1))) (.con (.int 2)) (.con (.int 3)))) .nil))) (.cons (.tup (.cons (.idx (.var 5) (.con (.int 1))) (.cons (.idx (.var 5) (.ite (.cmp .eq (.var 2) (.con (.int 1))) (.con (.int 3)) (.con (.int 2)))) .nil))) .nil))))]⟩
def D__law_count : Def := ⟨"_law_count", ["parting_so", "way_so", "one", "two"], 2, true, [
    .ret (.blt .len (.lc (.con (.int 1)) (.t [2, 3]) (.over (.call 79 (.cons (.call 57 (.cons (.var 0) .nil)) .nil))) (.some (.call 80 (.cons (.var 2) (.cons (.var 3) (.cons (.var 1) .nil))))) [("one", 2), ("two", 3)]))]⟩
def D__law_all_lots : Def := ⟨"_law_all_lots", ["parting_so", "way_so", "found", "own", "its", "one"], 2, false, [
    .asg (.n 2) (.lst (.cons (.tup .nil) .nil)),
    .loop (.n 3) (.over (.call 57 (.cons (.var 0) .nil))) [.asg (.n 2) (.bin .add (.var 2) (.lc (.bin .add (.var 4) (.tup (.cons (.var 3) .nil))) (.n 4) (.over (.var 2)) (.some (.cmp .eq (.lc (.con (.int 1)) (.n 5) (.over (.var 4)) (.some (.bnot (.call 80 (.cons (.var 5) (.cons (.var 3) (.cons (.var 1) .nil)))))) [("one", 5)]) (.lst .nil))) [("its", 4)]))],
    .ret (.var 2)]⟩
def D__law_most : Def := ⟨"_law_most", ["parting_so", "way_so", "rows_so", "long_so", "own"], 2, true, [
    .asg (.n 2) (.call 82 (.cons (.var 0) (.cons (.var 1) .nil))),
    .asg (.n 3) (.blt .max (.lc (.blt .len (.var 4)) (.n 4) (.over (.var 2)) .none [("own", 4)])),
    .ret (.blt .min (.lc (.var 4) (.n 4) (.over (.var 2)) (.some (.cmp .eq (.blt .len (.var 4)) (.var 3))) [("own", 4)]))]⟩
def D__law_right_3 : Def := ⟨"_law_right", ["tin", "parting_so", "got", "arcs_so", "one", "two", "goods_so", "others_so", "lap", "own", "bads_so", "a", "b"], 1, false, [
    .asg (.n 1) (.ite (.cmp .gt (.call 9 (.cons (.var 0) (.cons (.con (.int 3)) .nil))) (.con (.int 0))) (.call 54 (.cons (.var 0) (.cons (.con (.int 12)) .nil))) (.call 55 (.cons (.var 0) (.cons (.con (.int 6)) .nil)))),
    .asg (.n 2) (.lst (.cons (.call 71 (.cons (.var 1) .nil)) (.cons (.call 72 (.cons (.call 51 (.cons (.var 1) .nil)) .nil)) (.cons (.call 73 (.cons (.var 1) .nil)) (.cons (.call 74 (.cons (.var 1) .nil)) .nil))))),
    .ite (.bnot (.call 13 (.cons (.var 2) (.cons (.lst (.cons (.call 81 (.cons (.var 1) (.cons (.con (.int 1)) .nil))) (.cons (.call 81 (.cons (.var 1) (.cons (.neg (.con (.int 1))) .nil))) (.cons (.call 83 (.cons (.var 1) (.cons (.con (.int 1)) .nil))) (.cons (.call 83 (.cons (.var 1) (.cons (.neg (.con (.int 1))) .nil))) .nil))))) .nil)))) [.ret (.con (.bl false))] [],
    .asg (.n 3) (.call 40 (.cons (.var 1) .nil)),
    .loop (.t [4, 5]) (.over (.call 79 (.cons (.var 3) .nil))) [.ite (.band (.cons (.cmp .eq (.lenset (.bin .add (.var 4) (.var 5))) (.con (.int 4))) (.cons (.cmp .ne (.count (.lst (.cons (.call 80 (.cons (.var 4) (.cons (.var 5) (.cons (.con (.int 1)) .nil)))) (.cons (.call 80 (.cons (.var 4) (.cons (.var 5) (.cons (.neg (.con (.int 1))) .nil)))) (.cons (.bor (.cons (.cmp .lt (.idx (.var 4) (.con (.int 1))) (.idx (.var 5) (.con (.int 0)))) (.cons (.cmp .lt (.idx (.var 5) (.con (.int 1))) (.idx (.var 4) (.con (.int 0)))) .nil))) .nil)))) (.con (.bl true))) (.con (.int 1))) .nil))) [.ret (.con (.bl false))] []],
    .asg (.t [6, 7]) (.tup (.cons (.call 82 (.cons (.var 1) (.cons (.con (.int 1)) .nil))) (.cons (.call 82 (.cons (.var 1) (.cons (.neg (.con (.int 1))) .nil))) .nil))),
    .loop (.n 8) (.range1 (.con (.int 4))) [.asg (.n 9) (.blt .tuple (.blt .sorted (.call 50 (.cons (.var 0) (.cons (.blt .list (.var 3)) (.cons (.call 9 (.cons (.var 0) (.cons (.con (.int 4)) .nil))) .nil)))))), .ite (.bnot (.call 13 (.cons (.lst (.cons (.call 75 (.cons (.var 1) (.cons (.var 9) .nil))) (.cons (.call 76 (.cons (.var 1) (.cons (.var 9) .nil))) .nil))) (.cons (.lst (.cons (.cmp .in_ (.var 9) (.var 6)) (.cons (.cmp .in_ (.var 9) (.var 7)) .nil))) .nil)))) [.ret (.con (.bl false))] []],
    .loop (.n 9) (.over (.call 50 (.cons (.var 0) (.cons (.var 6) (.cons (.con (.int 3)) .nil))))) [.ite (.band (.cons (.cmp .gt (.blt .len (.var 9)) (.con (.int 1))) (.cons (.bor (.cons (.cmp .ge (.blt .max (.lc (.var 11) (.t [11, 12]) (.over (.var 9)) .none [("a", 11), ("b", 12)])) (.blt .min (.lc (.var 12) (.t [11, 12]) (.over (.var 9)) .none [("a", 11), ("b", 12)]))) (.cons (.cmp .ne (.lc (.var 12) (.t [11, 12]) (.over (.var 9)) .none [("a", 11), ("b", 12)]) (.blt .sorted (.lc (.var 12) (.t [11, 12]) (.over (.var 9)) .none [("a", 11), ("b", 12)]))) .nil))) .nil))) [.ret (.con (.bl false))] []],
    .loop (.n 9) (.over (.call 50 (.cons (.var 0) (.cons (.var 7) (.cons (.con (.int 3)) .nil))))) [.ite (.band (.cons (.cmp .gt (.blt .len (.var 9)) (.con (.int 1))) (.cons (.cmp .ne (.lc (.var 12) (.t [11, 12]) (.over (.var 9)) .none [("a", 11), ("b", 12)]) (.sortR (.lc (.var 12) (.t [11, 12]) (.over (.var 9)) .none [("a", 11), ("b", 12)]))) .nil))) [.ret (.con (.bl false))] []],
    .asg (.n 10) (.lst (.cons (.con .non) (.cons (.lst .nil) (.cons (.tup (.cons (.tup (.cons (.con (.int 1)) (.cons (.con (.int 99)) .nil))) .nil)) (.cons (.tup (.cons (.tup (.cons (.con (.int 1)) .nil)) .nil)) (.cons (.tup (.cons (.con (.int 1)) (.cons (.con (.int 2)) .nil))) (.cons (.tup (.cons (.tup (.cons (.con (.int 2)) (.cons (.con (.int 1)) .nil))) .nil)) (.cons (.tup (.cons (.tup (.cons (.con (.bl true)) (.cons (.con (.int 2)) .nil))) .nil)) (.cons (.con (.str "arcs")) (.cons (.ite (.cmp .ne (.var 3) (.tup .nil)) (.bin .add (.var 3) (.slice (.var 3) (.some (.neg (.con (.int 1)))) .none)) (.tup (.cons (.tup (.cons (.con (.int 1)) (.cons (.con (.int 2)) .nil))) .nil))) .nil)))))))))),
    .ret (.band (.cons (.call 13 (.cons (.bin .add (.lc (.call 75 (.cons (.var 1) (.cons (.var 9) .nil))) (.n 9) (.over (.var 10)) .none [("own", 9)]) (.lc (.call 76 (.cons (.var 1) (.cons (.var 9) .nil))) (.n 9) (.over (.var 10)) .none [("own", 9)])) (.cons (.rep (.lst (.cons (.con (.bl false)) .nil)) 18) .nil))) (.cons (.cmp .is_ (.call 75 (.cons (.var 1) (.cons (.tup .nil) .nil))) (.con (.bl true))) .nil)))]⟩
def D_law_3 : Def := ⟨"law", ["script", "tin", "five_so", "got", "lap"], 1, false, [
    .asg (.n 1) (.alloc (.call 77 (.cons (.call 10 (.cons (.var 0) (.cons (.con (.int 1)) .nil))) (.cons (.con (.int 0)) .nil)))),
    .ite (.bnot (.blt .all (.lc (.call 84 (.cons (.var 1) .nil)) (.n 4) (.range1 (.con (.int 3))) .none [("lap", 4)]))) [.ret (.con (.bl false))] [],
    .asg (.n 2) (.tup (.cons (.tup (.cons (.con (.int 1)) (.cons (.con (.int 4)) .nil))) (.cons (.tup (.cons (.con (.int 2)) (.cons (.con (.int 3)) (.cons (.con (.int 5)) .nil)))) .nil))),
    .asg (.n 3) (.lst (.cons (.call 71 (.cons (.var 2) .nil)) (.cons (.call 72 (.cons (.var 2) .nil)) (.cons (.call 73 (.cons (.var 2) .nil)) (.cons (.call 74 (.cons (.var 2) .nil)) (.cons (.call 73 (.cons (.tup (.cons (.tup (.cons (.con (.int 1)) (.cons (.con (.int 4)) .nil))) (.cons (.tup (.cons (.con (.int 2)) (.cons (.con (.int 5)) .nil))) (.cons (.tup (.cons (.con (.int 3)) (.cons (.con (.int 6)) .nil))) .nil)))) .nil)) (.cons (.call 74 (.cons (.tup (.cons (.tup (.cons (.con (.int 1)) (.cons (.con (.int 6)) .nil))) (.cons (.tup (.cons (.con (.int 2)) (.cons (.con (.int 5)) .nil))) (.cons (.tup (.cons (.con (.int 3)) (.cons (.con (.int 4)) .nil))) .nil)))) .nil)) (.cons (.call 73 (.cons (.tup .nil) .nil)) (.cons (.call 74 (.cons (.tup (.cons (.tup (.cons (.con (.int 1)) (.cons (.con (.int 2)) (.cons (.con (.int 3)) .nil)))) .nil)) .nil)) .nil))))))))),
    .ret (.call 13 (.cons (.var 3) (.cons (.lst (.cons (.con (.int 1)) (.cons (.con (.int 1)) (.cons (.tup (.cons (.tup (.cons (.con (.int 1)) (.cons (.con (.int 4)) .nil))) (.cons (.tup (.cons (.con (.int 3)) (.cons (.con (.int 5)) .nil))) .nil))) (.cons (.tup (.cons (.tup (.cons (.con (.int 1)) (.cons (.con (.int 4)) .nil))) (.cons (.tup (.cons (.con (.int 2)) (.cons (.con (.int 3)) .nil))) .nil))) (.cons (.tup (.cons (.tup (.cons (.con (.int 1)) (.cons (.con (.int 4)) .nil))) (.cons (.tup (.cons (.con (.int 2)) (.cons (.con (.int 5)) .nil))) (.cons (.tup (.cons (.con (.int 3)) (.cons (.con (.int 6)) .nil))) .nil)))) (.cons (.tup (.cons (.tup (.cons (.con (.int 1)) (.cons (.con (.int 6)) .nil))) (.cons (.tup (.cons (.con (.int 2)) (.cons (.con (.int 5)) .nil))) (.cons (.tup (.cons (.con (.int 3)) (.cons (.con (.int 4)) .nil))) .nil)))) (.cons (.tup .nil) (.cons (.tup (.cons (.tup (.cons (.con (.int 1)) (.cons (.con (.int 2)) .nil))) .nil)) .nil))))))))) .nil)))]⟩
def Tb : Nat → Option Def
  | 21 => some D_is_number
  | 24 => some D_is_long
  | 25 => some D_are_numbers
  | 26 => some D_ascends
  | 27 => some D_tupled
  | 28 => some D_joined
  | 29 => some D_is_parting
  | 30 => some D_sure_parting
  | 31 => some D_size_in
  | 32 => some D_arcs_in
  | 34 => some D_are_arcs_in
  | 40 => some D_arcs_of
  | 63 => some D_do_cross
  | 64 => some D_is_nested
  | 65 => some D_pairs_of
  | 66 => some D_count_in
  | 67 => some D_longest_over
  | 68 => some D_most_in
  | 69 => some D_all_do
  | 70 => some D_is_lot_in
  | 71 => some D_crossings
  | 72 => some D_nestings
  | 73 => some D_most_crossing
  | 74 => some D_most_nested
  | 75 => some D_all_cross
  | 76 => some D_all_nested
  | 77 => some D__law_box_3
  | 9 => some D__law_take
  | 10 => some D__law_cells
  | 11 => some D__law_of
  | 50 => some D__law_pick
  | 51 => some D__law_lists
  | 13 => some D__law_same
  | 78 => some D__law_flat
  | 54 => some D__law_parting
  | 55 => some D__law_pairing
  | 57 => some D__law_arcs
  | 79 => some D__law_pairs
  | 80 => some D__law_do
  | 81 => some D__law_count
  | 82 => some D__law_all_lots
  | 83 => some D__law_most
  | 84 => some D__law_right_3
  | 85 => some D_law_3
  | _ => none
end M
set_option Elab.async false
set_option linter.all false
set_option maxRecDepth 100000
set_option maxHeartbeats 4000000
namespace M
open PySem PySem.Spec PyProof.Rows L2
def top (i : Nat) : Stmt := PySem.Challenge.pw_arcscrossed_k02_main_crossings_and_nesti.main.body.getD i (.Pass ⟨0, 0, 0, 0⟩)
def freeN : List Str := ["abs", "all", "bool", "enumerate", "int", "isinstance", "len", "list", "max", "min", "range", "set", "sorted", "str", "sum", "tuple", "zip"]
def errN : List Str := ["Unfit"]
def consN : List (Str × D) := [("do_cross", .fn 63), ("is_nested", .fn 64), ("MOST_THINGS", .int 30), ("CROSSING", .int 1), ("NESTED", .int (-1))]
def d_is_number : He.DefD := ⟨("is_number", none), "is_number", "is_number", defArgs (top 3), defBody (top 3), defScope (top 3), [], []⟩
def d_is_long : He.DefD := ⟨("is_long", none), "is_long", "is_long", defArgs (top 4), defBody (top 4), defScope (top 4), [], []⟩
def d_are_numbers : He.DefD := ⟨("are_numbers", none), "are_numbers", "are_numbers", defArgs (top 5), defBody (top 5), defScope (top 5), [], []⟩
def d_ascends : He.DefD := ⟨("ascends", none), "ascends", "ascends", defArgs (top 6), defBody (top 6), defScope (top 6), [], []⟩
def d_tupled : He.DefD := ⟨("tupled", none), "tupled", "tupled", defArgs (top 7), defBody (top 7), defScope (top 7), [], []⟩
def d_joined : He.DefD := ⟨("joined", none), "joined", "joined", defArgs (top 8), defBody (top 8), defScope (top 8), [], []⟩
def d_is_parting : He.DefD := ⟨("is_parting", none), "is_parting", "is_parting", defArgs (top 11), defBody (top 11), defScope (top 11), [], []⟩
def d_sure_parting : He.DefD := ⟨("sure_parting", none), "sure_parting", "sure_parting", defArgs (top 12), defBody (top 12), defScope (top 12), [], []⟩
def d_size_in : He.DefD := ⟨("size_in", none), "size_in", "size_in", defArgs (top 13), defBody (top 13), defScope (top 13), [], []⟩
def d_arcs_in : He.DefD := ⟨("arcs_in", none), "arcs_in", "arcs_in", defArgs (top 14), defBody (top 14), defScope (top 14), [], []⟩
def d_are_arcs_in : He.DefD := ⟨("are_arcs_in", none), "are_arcs_in", "are_arcs_in", defArgs (top 15), defBody (top 15), defScope (top 15), [], []⟩
def d_arcs_of : He.DefD := ⟨("arcs_of", none), "arcs_of", "arcs_of", defArgs (top 16), defBody (top 16), defScope (top 16), [], []⟩
def d_do_cross : He.DefD := ⟨("do_cross", none), "do_cross", "do_cross", defArgs (top 20), defBody (top 20), defScope (top 20), [], []⟩
def d_is_nested : He.DefD := ⟨("is_nested", none), "is_nested", "is_nested", defArgs (top 21), defBody (top 21), defScope (top 21), [], []⟩
def d_pairs_of : He.DefD := ⟨("pairs_of", none), "pairs_of", "pairs_of", defArgs (top 22), defBody (top 22), defScope (top 22), [], []⟩
def d_count_in : He.DefD := ⟨("count_in", none), "count_in", "count_in", defArgs (top 23), defBody (top 23), defScope (top 23), [], []⟩
def d_longest_over : He.DefD := ⟨("longest_over", none), "longest_over", "longest_over", defArgs (top 24), defBody (top 24), defScope (top 24), [], []⟩
def d_most_in : He.DefD := ⟨("most_in", none), "most_in", "most_in", defArgs (top 25), defBody (top 25), defScope (top 25), [], []⟩
def d_all_do : He.DefD := ⟨("all_do", none), "all_do", "all_do", defArgs (top 26), defBody (top 26), defScope (top 26), [], []⟩
def d_is_lot_in : He.DefD := ⟨("is_lot_in", none), "is_lot_in", "is_lot_in", defArgs (top 27), defBody (top 27), defScope (top 27), [], []⟩
def d_crossings : He.DefD := ⟨("crossings", none), "crossings", "crossings", defArgs (top 28), defBody (top 28), defScope (top 28), [], []⟩
def d_nestings : He.DefD := ⟨("nestings", none), "nestings", "nestings", defArgs (top 29), defBody (top 29), defScope (top 29), [], []⟩
def d_most_crossing : He.DefD := ⟨("most_crossing", none), "most_crossing", "most_crossing", defArgs (top 30), defBody (top 30), defScope (top 30), [], []⟩
def d_most_nested : He.DefD := ⟨("most_nested", none), "most_nested", "most_nested", defArgs (top 31), defBody (top 31), defScope (top 31), [], []⟩
def d_all_cross : He.DefD := ⟨("all_cross", none), "all_cross", "all_cross", defArgs (top 32), defBody (top 32), defScope (top 32), [], []⟩
def d_all_nested : He.DefD := ⟨("all_nested", none), "all_nested", "all_nested", defArgs (top 33), defBody (top 33), defScope (top 33), [], []⟩
def d__law_box : He.DefD := ⟨("_law_box", none), "_law_box", "_law_box", defArgs (top 35), defBody (top 35), defScope (top 35), [], []⟩
def d__law_take : He.DefD := ⟨("_law_take", none), "_law_take", "_law_take", defArgs (top 36), defBody (top 36), defScope (top 36), [], []⟩
def d__law_cells : He.DefD := ⟨("_law_cells", none), "_law_cells", "_law_cells", defArgs (top 37), defBody (top 37), defScope (top 37), [], []⟩
def d__law_of : He.DefD := ⟨("_law_of", none), "_law_of", "_law_of", defArgs (top 38), defBody (top 38), defScope (top 38), [], []⟩
def d__law_pick : He.DefD := ⟨("_law_pick", none), "_law_pick", "_law_pick", defArgs (top 39), defBody (top 39), defScope (top 39), [], []⟩
def d__law_lists : He.DefD := ⟨("_law_lists", none), "_law_lists", "_law_lists", defArgs (top 40), defBody (top 40), defScope (top 40), [], []⟩
def d__law_same : He.DefD := ⟨("_law_same", none), "_law_same", "_law_same", defArgs (top 41), defBody (top 41), defScope (top 41), [], []⟩
def d__law_flat : He.DefD := ⟨("_law_flat", none), "_law_flat", "_law_flat", defArgs (top 42), defBody (top 42), defScope (top 42), [], []⟩
def d__law_parting : He.DefD := ⟨("_law_parting", none), "_law_parting", "_law_parting", defArgs (top 43), defBody (top 43), defScope (top 43), [], []⟩
def d__law_pairing : He.DefD := ⟨("_law_pairing", none), "_law_pairing", "_law_pairing", defArgs (top 44), defBody (top 44), defScope (top 44), [], []⟩
def d__law_arcs : He.DefD := ⟨("_law_arcs", none), "_law_arcs", "_law_arcs", defArgs (top 45), defBody (top 45), defScope (top 45), [], []⟩
def d__law_pairs : He.DefD := ⟨("_law_pairs", none), "_law_pairs", "_law_pairs", defArgs (top 46), defBody (top 46), defScope (top 46), [], []⟩
def d__law_do : He.DefD := ⟨("_law_do", none), "_law_do", "_law_do", defArgs (top 47), defBody (top 47), defScope (top 47), [], []⟩
def d__law_count : He.DefD := ⟨("_law_count", none), "_law_count", "_law_count", defArgs (top 48), defBody (top 48), defScope (top 48), [], []⟩
def d__law_all_lots : He.DefD := ⟨("_law_all_lots", none), "_law_all_lots", "_law_all_lots", defArgs (top 49), defBody (top 49), defScope (top 49), [], []⟩
def d__law_most : He.DefD := ⟨("_law_most", none), "_law_most", "_law_most", defArgs (top 50), defBody (top 50), defScope (top 50), [], []⟩
def d__law_right : He.DefD := ⟨("_law_right", none), "_law_right", "_law_right", defArgs (top 51), defBody (top 51), defScope (top 51), [], []⟩
def d_law : He.DefD := ⟨("law", none), "law", "law", defArgs (top 52), defBody (top 52), defScope (top 52), [], []⟩
def fn : List He.DefD := ([d_is_number, d_is_long, d_are_numbers, d_ascends, d_tupled, d_joined, d_is_parting, d_sure_parting, d_size_in, d_arcs_in, d_are_arcs_in, d_arcs_of, d_do_cross, d_is_nested] : List He.DefD) ++ ([d_pairs_of, d_count_in, d_longest_over, d_most_in, d_all_do, d_is_lot_in, d_crossings, d_nestings, d_most_crossing, d_most_nested, d_all_cross, d_all_nested, d__law_box, d__law_take] : List He.DefD) ++ ([d__law_cells, d__law_of, d__law_pick, d__law_lists, d__law_same, d__law_flat, d__law_parting, d__law_pairing, d__law_arcs, d__law_pairs, d__law_do, d__law_count, d__law_all_lots, d__law_most] : List He.DefD) ++ ([d__law_right, d_law] : List He.DefD)
def fa : List He.Fa := ([.glo "is_number", .glo "is_long", .glo "are_numbers", .glo "ascends", .glo "tupled", .glo "joined", .glo "is_parting", .glo "sure_parting", .glo "size_in", .glo "arcs_in", .glo "are_arcs_in", .glo "arcs_of", .glo "do_cross", .glo "is_nested"] : List He.Fa) ++ ([.glo "pairs_of", .glo "count_in", .glo "longest_over", .glo "most_in", .glo "all_do", .glo "is_lot_in", .glo "crossings", .glo "nestings", .glo "most_crossing", .glo "most_nested", .glo "all_cross", .glo "all_nested", .glo "_law_box", .glo "_law_take"] : List He.Fa) ++ ([.glo "_law_cells", .glo "_law_of", .glo "_law_pick", .glo "_law_lists", .glo "_law_same", .glo "_law_flat", .glo "_law_parting", .glo "_law_pairing", .glo "_law_arcs", .glo "_law_pairs", .glo "_law_do", .glo "_law_count", .glo "_law_all_lots", .glo "_law_most"] : List He.Fa) ++ ([.glo "_law_right", .glo "law", .exc "Unfit", .glo "Unfit", .free "abs", .free "all", .free "bool", .free "enumerate", .free "int", .free "isinstance", .free "len", .free "list", .free "max", .free "min"] : List He.Fa) ++ ([.free "range", .free "set", .free "sorted", .free "str", .free "sum", .free "tuple", .free "zip", .int "MOST_THINGS" 30, .int "CROSSING" 1, .int "NESTED" (-1)] : List He.Fa)
def loose : List PySem.Str := (["is_number", "is_long", "are_numbers", "ascends", "tupled", "joined", "is_parting", "sure_parting", "size_in", "arcs_in", "are_arcs_in", "arcs_of", "do_cross", "is_nested"] : List PySem.Str) ++ (["pairs_of", "count_in", "longest_over", "most_in", "all_do", "is_lot_in", "crossings", "nestings", "most_crossing", "most_nested", "all_cross", "all_nested", "_law_box", "_law_take"] : List PySem.Str) ++ (["_law_cells", "_law_of", "_law_pick", "_law_lists", "_law_same", "_law_flat", "_law_parting", "_law_pairing", "_law_arcs", "_law_pairs", "_law_do", "_law_count", "_law_all_lots", "_law_most"] : List PySem.Str) ++ (["_law_right", "Unfit", "MOST_THINGS", "CROSSING", "NESTED"] : List PySem.Str)
theorem chk_is_number : chkSL ⟨Tb, D_is_number.N, freeN, errN, consN⟩ (defScope (top 3)) D_is_number.fresh D_is_number.body (defBody (top 3)) = true := by decide +kernel
theorem chk_is_long : chkSL ⟨Tb, D_is_long.N, freeN, errN, consN⟩ (defScope (top 4)) D_is_long.fresh D_is_long.body (defBody (top 4)) = true := by decide +kernel
theorem chk_are_numbers : chkSL ⟨Tb, D_are_numbers.N, freeN, errN, consN⟩ (defScope (top 5)) D_are_numbers.fresh D_are_numbers.body (defBody (top 5)) = true := by decide +kernel
theorem chk_ascends : chkSL ⟨Tb, D_ascends.N, freeN, errN, consN⟩ (defScope (top 6)) D_ascends.fresh D_ascends.body (defBody (top 6)) = true := by decide +kernel
theorem chk_tupled : chkSL ⟨Tb, D_tupled.N, freeN, errN, consN⟩ (defScope (top 7)) D_tupled.fresh D_tupled.body (defBody (top 7)) = true := by decide +kernel
theorem chk_joined : chkSL ⟨Tb, D_joined.N, freeN, errN, consN⟩ (defScope (top 8)) D_joined.fresh D_joined.body (defBody (top 8)) = true := by decide +kernel
theorem chk_is_parting : chkSL ⟨Tb, D_is_parting.N, freeN, errN, consN⟩ (defScope (top 11)) D_is_parting.fresh D_is_parting.body (defBody (top 11)) = true := by decide +kernel
theorem chk_sure_parting : chkSL ⟨Tb, D_sure_parting.N, freeN, errN, consN⟩ (defScope (top 12)) D_sure_parting.fresh D_sure_parting.body (defBody (top 12)) = true := by decide +kernel
theorem chk_size_in : chkSL ⟨Tb, D_size_in.N, freeN, errN, consN⟩ (defScope (top 13)) D_size_in.fresh D_size_in.body (defBody (top 13)) = true := by decide +kernel
theorem chk_arcs_in : chkSL ⟨Tb, D_arcs_in.N, freeN, errN, consN⟩ (defScope (top 14)) D_arcs_in.fresh D_arcs_in.body (defBody (top 14)) = true := by decide +kernel
theorem chk_are_arcs_in : chkSL ⟨Tb, D_are_arcs_in.N, freeN, errN, consN⟩ (defScope (top 15)) D_are_arcs_in.fresh D_are_arcs_in.body (defBody (top 15)) = true := by decide +kernel
theorem chk_arcs_of : chkSL ⟨Tb, D_arcs_of.N, freeN, errN, consN⟩ (defScope (top 16)) D_arcs_of.fresh D_arcs_of.body (defBody (top 16)) = true := by decide +kernel
theorem chk_do_cross : chkSL ⟨Tb, D_do_cross.N, freeN, errN, consN⟩ (defScope (top 20)) D_do_cross.fresh D_do_cross.body (defBody (top 20)) = true := by decide +kernel
theorem chk_is_nested : chkSL ⟨Tb, D_is_nested.N, freeN, errN, consN⟩ (defScope (top 21)) D_is_nested.fresh D_is_nested.body (defBody (top 21)) = true := by decide +kernel
theorem chk_pairs_of : chkSL ⟨Tb, D_pairs_of.N, freeN, errN, consN⟩ (defScope (top 22)) D_pairs_of.fresh D_pairs_of.body (defBody (top 22)) = true := by decide +kernel
theorem chk_count_in : chkSL ⟨Tb, D_count_in.N, freeN, errN, consN⟩ (defScope (top 23)) D_count_in.fresh D_count_in.body (defBody (top 23)) = true := by decide +kernel
theorem chk_longest_over : chkSL ⟨Tb, D_longest_over.N, freeN, errN, consN⟩ (defScope (top 24)) D_longest_over.fresh D_longest_over.body (defBody (top 24)) = true := by decide +kernel
theorem chk_most_in : chkSL ⟨Tb, D_most_in.N, freeN, errN, consN⟩ (defScope (top 25)) D_most_in.fresh D_most_in.body (defBody (top 25)) = true := by decide +kernel
theorem chk_all_do : chkSL ⟨Tb, D_all_do.N, freeN, errN, consN⟩ (defScope (top 26)) D_all_do.fresh D_all_do.body (defBody (top 26)) = true := by decide +kernel
theorem chk_is_lot_in : chkSL ⟨Tb, D_is_lot_in.N, freeN, errN, consN⟩ (defScope (top 27)) D_is_lot_in.fresh D_is_lot_in.body (defBody (top 27)) = true := by decide +kernel
theorem chk_crossings : chkSL ⟨Tb, D_crossings.N, freeN, errN, consN⟩ (defScope (top 28)) D_crossings.fresh D_crossings.body (defBody (top 28)) = true := by decide +kernel
theorem chk_nestings : chkSL ⟨Tb, D_nestings.N, freeN, errN, consN⟩ (defScope (top 29)) D_nestings.fresh D_nestings.body (defBody (top 29)) = true := by decide +kernel
theorem chk_most_crossing : chkSL ⟨Tb, D_most_crossing.N, freeN, errN, consN⟩ (defScope (top 30)) D_most_crossing.fresh D_most_crossing.body (defBody (top 30)) = true := by decide +kernel
theorem chk_most_nested : chkSL ⟨Tb, D_most_nested.N, freeN, errN, consN⟩ (defScope (top 31)) D_most_nested.fresh D_most_nested.body (defBody (top 31)) = true := by decide +kernel
theorem chk_all_cross : chkSL ⟨Tb, D_all_cross.N, freeN, errN, consN⟩ (defScope (top 32)) D_all_cross.fresh D_all_cross.body (defBody (top 32)) = true := by decide +kernel
theorem chk_all_nested : chkSL ⟨Tb, D_all_nested.N, freeN, errN, consN⟩ (defScope (top 33)) D_all_nested.fresh D_all_nested.body (defBody (top 33)) = true := by decide +kernel
theorem chk__law_box : chkSL ⟨Tb, D__law_box_3.N, freeN, errN, consN⟩ (defScope (top 35)) D__law_box_3.fresh D__law_box_3.body (defBody (top 35)) = true := by decide +kernel
theorem chk__law_take : chkSL ⟨Tb, D__law_take.N, freeN, errN, consN⟩ (defScope (top 36)) D__law_take.fresh D__law_take.body (defBody (top 36)) = true := by decide +kernel
theorem chk__law_cells : chkSL ⟨Tb, D__law_cells.N, freeN, errN, consN⟩ (defScope (top 37)) D__law_cells.fresh D__law_cells.body (defBody (top 37)) = true := by decide +kernel
theorem chk__law_of : chkSL ⟨Tb, D__law_of.N, freeN, errN, consN⟩ (defScope (top 38)) D__law_of.fresh D__law_of.body (defBody (top 38)) = true := by decide +kernel
theorem chk__law_pick : chkSL ⟨Tb, D__law_pick.N, freeN, errN, consN⟩ (defScope (top 39)) D__law_pick.fresh D__law_pick.body (defBody (top 39)) = true := by decide +kernel
theorem chk__law_lists : chkSL ⟨Tb, D__law_lists.N, freeN, errN, consN⟩ (defScope (top 40)) D__law_lists.fresh D__law_lists.body (defBody (top 40)) = true := by decide +kernel
theorem chk__law_same : chkSL ⟨Tb, D__law_same.N, freeN, errN, consN⟩ (defScope (top 41)) D__law_same.fresh D__law_same.body (defBody (top 41)) = true := by decide +kernel
theorem chk__law_flat : chkSL ⟨Tb, D__law_flat.N, freeN, errN, consN⟩ (defScope (top 42)) D__law_flat.fresh D__law_flat.body (defBody (top 42)) = true := by decide +kernel
theorem chk__law_parting : chkSL ⟨Tb, D__law_parting.N, freeN, errN, consN⟩ (defScope (top 43)) D__law_parting.fresh D__law_parting.body (defBody (top 43)) = true := by decide +kernel
theorem chk__law_pairing : chkSL ⟨Tb, D__law_pairing.N, freeN, errN, consN⟩ (defScope (top 44)) D__law_pairing.fresh D__law_pairing.body (defBody (top 44)) = true := by decide +kernel
theorem chk__law_arcs : chkSL ⟨Tb, D__law_arcs.N, freeN, errN, consN⟩ (defScope (top 45)) D__law_arcs.fresh D__law_arcs.body (defBody (top 45)) = true := by decide +kernel
theorem chk__law_pairs : chkSL ⟨Tb, D__law_pairs.N, freeN, errN, consN⟩ (defScope (top 46)) D__law_pairs.fresh D__law_pairs.body (defBody (top 46)) = true := by decide +kernel
theorem chk__law_do : chkSL ⟨Tb, D__law_do.N, freeN, errN, consN⟩ (defScope (top 47)) D__law_do.fresh D__law_do.body (defBody (top 47)) = true := by decide +kernel
theorem chk__law_count : chkSL ⟨Tb, D__law_count.N, freeN, errN, consN⟩ (defScope (top 48)) D__law_count.fresh D__law_count.body (defBody (top 48)) = true := by decide +kernel
theorem chk__law_all_lots : chkSL ⟨Tb, D__law_all_lots.N, freeN, errN, consN⟩ (defScope (top 49)) D__law_all_lots.fresh D__law_all_lots.body (defBody (top 49)) = true := by decide +kernel
theorem chk__law_most : chkSL ⟨Tb, D__law_most.N, freeN, errN, consN⟩ (defScope (top 50)) D__law_most.fresh D__law_most.body (defBody (top 50)) = true := by decide +kernel
theorem chk__law_right : chkSL ⟨Tb, D__law_right_3.N, freeN, errN, consN⟩ (defScope (top 51)) D__law_right_3.fresh D__law_right_3.body (defBody (top 51)) = true := by decide +kernel
theorem chk_law : chkSL ⟨Tb, D_law_3.N, freeN, errN, consN⟩ (defScope (top 52)) D_law_3.fresh D_law_3.body (defBody (top 52)) = true := by decide +kernel
section
variable {K : PySem.W.Frag} {h : Heap} {mg : Str → Option Value}
theorem dok_is_number (X : K.In h) (Gn : h.Ns mainGlobals mg) (c : He.SaysD fa fn K) : DefOk K mg Tb freeN errN consN D_is_number := by
  obtain ⟨fd, F⟩ := c.def_ 0 (d := d_is_number) rfl
  exact ⟨_, fd, _, _, _, F, He.glo_ok X Gn (c.fact 0 (f := .glo "is_number") rfl), FunD.bindsN F (fun _ _ _ _ _ _ us hl => match us, hl with | [_], _ => rfl), kwB_of F (fun _ _ _ _ _ _ ws hl => match ws, hl with | [_], _ => rfl), ⟨rfl, rfl, rfl, by decide +kernel, rfl, by decide +kernel, by decide +kernel⟩, by decide, chk_is_number⟩
theorem dok_is_long (X : K.In h) (Gn : h.Ns mainGlobals mg) (c : He.SaysD fa fn K) : DefOk K mg Tb freeN errN consN D_is_long := by
  obtain ⟨fd, F⟩ := c.def_ 1 (d := d_is_long) rfl
  exact ⟨_, fd, _, _, _, F, He.glo_ok X Gn (c.fact 1 (f := .glo "is_long") rfl), FunD.bindsN F (fun _ _ _ _ _ _ us hl => match us, hl with | [_, _], _ => rfl), kwB_of F (fun _ _ _ _ _ _ ws hl => match ws, hl with | [_, _], _ => rfl), ⟨rfl, rfl, rfl, by decide +kernel, rfl, by decide +kernel, by decide +kernel⟩, by decide, chk_is_long⟩
theorem dok_are_numbers (X : K.In h) (Gn : h.Ns mainGlobals mg) (c : He.SaysD fa fn K) : DefOk K mg Tb freeN errN consN D_are_numbers := by
  obtain ⟨fd, F⟩ := c.def_ 2 (d := d_are_numbers) rfl
  exact ⟨_, fd, _, _, _, F, He.glo_ok X Gn (c.fact 2 (f := .glo "are_numbers") rfl), FunD.bindsN F (fun _ _ _ _ _ _ us hl => match us, hl with | [_], _ => rfl), kwB_of F (fun _ _ _ _ _ _ ws hl => match ws, hl with | [_], _ => rfl), ⟨rfl, rfl, rfl, by decide +kernel, rfl, by decide +kernel, by decide +kernel⟩, by decide, chk_are_numbers⟩
theorem dok_ascends (X : K.In h) (Gn : h.Ns mainGlobals mg) (c : He.SaysD fa fn K) : DefOk K mg Tb freeN errN consN D_ascends := by
  obtain ⟨fd, F⟩ := c.def_ 3 (d := d_ascends) rfl
  exact ⟨_, fd, _, _, _, F, He.glo_ok X Gn (c.fact 3 (f := .glo "ascends") rfl), FunD.bindsN F (fun _ _ _ _ _ _ us hl => match us, hl with | [_], _ => rfl), kwB_of F (fun _ _ _ _ _ _ ws hl => match ws, hl with | [_], _ => rfl), ⟨rfl, rfl, rfl, by decide +kernel, rfl, by decide +kernel, by decide +kernel⟩, by decide, chk_ascends⟩
theorem dok_tupled (X : K.In h) (Gn : h.Ns mainGlobals mg) (c : He.SaysD fa fn K) : DefOk K mg Tb freeN errN consN D_tupled := by
  obtain ⟨fd, F⟩ := c.def_ 4 (d := d_tupled) rfl
  exact ⟨_, fd, _, _, _, F, He.glo_ok X Gn (c.fact 4 (f := .glo "tupled") rfl), FunD.bindsN F (fun _ _ _ _ _ _ us hl => match us, hl with | [_], _ => rfl), kwB_of F (fun _ _ _ _ _ _ ws hl => match ws, hl with | [_], _ => rfl), ⟨rfl, rfl, rfl, by decide +kernel, rfl, by decide +kernel, by decide +kernel⟩, by decide, chk_tupled⟩
theorem dok_joined (X : K.In h) (Gn : h.Ns mainGlobals mg) (c : He.SaysD fa fn K) : DefOk K mg Tb freeN errN consN D_joined := by
  obtain ⟨fd, F⟩ := c.def_ 5 (d := d_joined) rfl
  exact ⟨_, fd, _, _, _, F, He.glo_ok X Gn (c.fact 5 (f := .glo "joined") rfl), FunD.bindsN F (fun _ _ _ _ _ _ us hl => match us, hl with | [_], _ => rfl), kwB_of F (fun _ _ _ _ _ _ ws hl => match ws, hl with | [_], _ => rfl), ⟨rfl, rfl, rfl, by decide +kernel, rfl, by decide +kernel, by decide +kernel⟩, by decide, chk_joined⟩
theorem dok_is_parting (X : K.In h) (Gn : h.Ns mainGlobals mg) (c : He.SaysD fa fn K) : DefOk K mg Tb freeN errN consN D_is_parting := by
  obtain ⟨fd, F⟩ := c.def_ 6 (d := d_is_parting) rfl
  exact ⟨_, fd, _, _, _, F, He.glo_ok X Gn (c.fact 6 (f := .glo "is_parting") rfl), FunD.bindsN F (fun _ _ _ _ _ _ us hl => match us, hl with | [_], _ => rfl), kwB_of F (fun _ _ _ _ _ _ ws hl => match ws, hl with | [_], _ => rfl), ⟨rfl, rfl, rfl, by decide +kernel, rfl, by decide +kernel, by decide +kernel⟩, by decide, chk_is_parting⟩
theorem dok_sure_parting (X : K.In h) (Gn : h.Ns mainGlobals mg) (c : He.SaysD fa fn K) : DefOk K mg Tb freeN errN consN D_sure_parting := by
  obtain ⟨fd, F⟩ := c.def_ 7 (d := d_sure_parting) rfl
  exact ⟨_, fd, _, _, _, F, He.glo_ok X Gn (c.fact 7 (f := .glo "sure_parting") rfl), FunD.bindsN F (fun _ _ _ _ _ _ us hl => match us, hl with | [_], _ => rfl), kwB_of F (fun _ _ _ _ _ _ ws hl => match ws, hl with | [_], _ => rfl), ⟨rfl, rfl, rfl, by decide +kernel, rfl, by decide +kernel, by decide +kernel⟩, by decide, chk_sure_parting⟩
theorem dok_size_in (X : K.In h) (Gn : h.Ns mainGlobals mg) (c : He.SaysD fa fn K) : DefOk K mg Tb freeN errN consN D_size_in := by
  obtain ⟨fd, F⟩ := c.def_ 8 (d := d_size_in) rfl
  exact ⟨_, fd, _, _, _, F, He.glo_ok X Gn (c.fact 8 (f := .glo "size_in") rfl), FunD.bindsN F (fun _ _ _ _ _ _ us hl => match us, hl with | [_], _ => rfl), kwB_of F (fun _ _ _ _ _ _ ws hl => match ws, hl with | [_], _ => rfl), ⟨rfl, rfl, rfl, by decide +kernel, rfl, by decide +kernel, by decide +kernel⟩, by decide, chk_size_in⟩
theorem dok_arcs_in (X : K.In h) (Gn : h.Ns mainGlobals mg) (c : He.SaysD fa fn K) : DefOk K mg Tb freeN errN consN D_arcs_in := by
  obtain ⟨fd, F⟩ := c.def_ 9 (d := d_arcs_in) rfl
  exact ⟨_, fd, _, _, _, F, He.glo_ok X Gn (c.fact 9 (f := .glo "arcs_in") rfl), FunD.bindsN F (fun _ _ _ _ _ _ us hl => match us, hl with | [_], _ => rfl), kwB_of F (fun _ _ _ _ _ _ ws hl => match ws, hl with | [_], _ => rfl), ⟨rfl, rfl, rfl, by decide +kernel, rfl, by decide +kernel, by decide +kernel⟩, by decide, chk_arcs_in⟩
theorem dok_are_arcs_in (X : K.In h) (Gn : h.Ns mainGlobals mg) (c : He.SaysD fa fn K) : DefOk K mg Tb freeN errN consN D_are_arcs_in := by
  obtain ⟨fd, F⟩ := c.def_ 10 (d := d_are_arcs_in) rfl
  exact ⟨_, fd, _, _, _, F, He.glo_ok X Gn (c.fact 10 (f := .glo "are_arcs_in") rfl), FunD.bindsN F (fun _ _ _ _ _ _ us hl => match us, hl with | [_, _], _ => rfl), kwB_of F (fun _ _ _ _ _ _ ws hl => match ws, hl with | [_, _], _ => rfl), ⟨rfl, rfl, rfl, by decide +kernel, rfl, by decide +kernel, by decide +kernel⟩, by decide, chk_are_arcs_in⟩
theorem dok_arcs_of (X : K.In h) (Gn : h.Ns mainGlobals mg) (c : He.SaysD fa fn K) : DefOk K mg Tb freeN errN consN D_arcs_of := by
  obtain ⟨fd, F⟩ := c.def_ 11 (d := d_arcs_of) rfl
  exact ⟨_, fd, _, _, _, F, He.glo_ok X Gn (c.fact 11 (f := .glo "arcs_of") rfl), FunD.bindsN F (fun _ _ _ _ _ _ us hl => match us, hl with | [_], _ => rfl), kwB_of F (fun _ _ _ _ _ _ ws hl => match ws, hl with | [_], _ => rfl), ⟨rfl, rfl, rfl, by decide +kernel, rfl, by decide +kernel, by decide +kernel⟩, by decide, chk_arcs_of⟩
theorem dok_do_cross (X : K.In h) (Gn : h.Ns mainGlobals mg) (c : He.SaysD fa fn K) : DefOk K mg Tb freeN errN consN D_do_cross := by
  obtain ⟨fd, F⟩ := c.def_ 12 (d := d_do_cross) rfl
  exact ⟨_, fd, _, _, _, F, He.glo_ok X Gn (c.fact 12 (f := .glo "do_cross") rfl), FunD.bindsN F (fun _ _ _ _ _ _ us hl => match us, hl with | [_, _], _ => rfl), kwB_of F (fun _ _ _ _ _ _ ws hl => match ws, hl with | [_, _], _ => rfl), ⟨rfl, rfl, rfl, by decide +kernel, rfl, by decide +kernel, by decide +kernel⟩, by decide, chk_do_cross⟩
theorem dok_is_nested (X : K.In h) (Gn : h.Ns mainGlobals mg) (c : He.SaysD fa fn K) : DefOk K mg Tb freeN errN consN D_is_nested := by
  obtain ⟨fd, F⟩ := c.def_ 13 (d := d_is_nested) rfl
  exact ⟨_, fd, _, _, _, F, He.glo_ok X Gn (c.fact 13 (f := .glo "is_nested") rfl), FunD.bindsN F (fun _ _ _ _ _ _ us hl => match us, hl with | [_, _], _ => rfl), kwB_of F (fun _ _ _ _ _ _ ws hl => match ws, hl with | [_, _], _ => rfl), ⟨rfl, rfl, rfl, by decide +kernel, rfl, by decide +kernel, by decide +kernel⟩, by decide, chk_is_nested⟩
theorem dok_pairs_of (X : K.In h) (Gn : h.Ns mainGlobals mg) (c : He.SaysD fa fn K) : DefOk K mg Tb freeN errN consN D_pairs_of := by
  obtain ⟨fd, F⟩ := c.def_ 14 (d := d_pairs_of) rfl
  exact ⟨_, fd, _, _, _, F, He.glo_ok X Gn (c.fact 14 (f := .glo "pairs_of") rfl), FunD.bindsN F (fun _ _ _ _ _ _ us hl => match us, hl with | [_], _ => rfl), kwB_of F (fun _ _ _ _ _ _ ws hl => match ws, hl with | [_], _ => rfl), ⟨rfl, rfl, rfl, by decide +kernel, rfl, by decide +kernel, by decide +kernel⟩, by decide, chk_pairs_of⟩
theorem dok_count_in (X : K.In h) (Gn : h.Ns mainGlobals mg) (c : He.SaysD fa fn K) : DefOk K mg Tb freeN errN consN D_count_in := by
  obtain ⟨fd, F⟩ := c.def_ 15 (d := d_count_in) rfl
  exact ⟨_, fd, _, _, _, F, He.glo_ok X Gn (c.fact 15 (f := .glo "count_in") rfl), FunD.bindsN F (fun _ _ _ _ _ _ us hl => match us, hl with | [_, _], _ => rfl), kwB_of F (fun _ _ _ _ _ _ ws hl => match ws, hl with | [_, _], _ => rfl), ⟨rfl, rfl, rfl, by decide +kernel, rfl, by decide +kernel, by decide +kernel⟩, by decide, chk_count_in⟩
theorem dok_longest_over (X : K.In h) (Gn : h.Ns mainGlobals mg) (c : He.SaysD fa fn K) : DefOk K mg Tb freeN errN consN D_longest_over := by
  obtain ⟨fd, F⟩ := c.def_ 16 (d := d_longest_over) rfl
  exact ⟨_, fd, _, _, _, F, He.glo_ok X Gn (c.fact 16 (f := .glo "longest_over") rfl), FunD.bindsN F (fun _ _ _ _ _ _ us hl => match us, hl with | [_, _, _], _ => rfl), kwB_of F (fun _ _ _ _ _ _ ws hl => match ws, hl with | [_, _, _], _ => rfl), ⟨rfl, rfl, rfl, by decide +kernel, rfl, by decide +kernel, by decide +kernel⟩, by decide, chk_longest_over⟩
theorem dok_most_in (X : K.In h) (Gn : h.Ns mainGlobals mg) (c : He.SaysD fa fn K) : DefOk K mg Tb freeN errN consN D_most_in := by
  obtain ⟨fd, F⟩ := c.def_ 17 (d := d_most_in) rfl
  exact ⟨_, fd, _, _, _, F, He.glo_ok X Gn (c.fact 17 (f := .glo "most_in") rfl), FunD.bindsN F (fun _ _ _ _ _ _ us hl => match us, hl with | [_, _, _], _ => rfl), kwB_of F (fun _ _ _ _ _ _ ws hl => match ws, hl with | [_, _, _], _ => rfl), ⟨rfl, rfl, rfl, by decide +kernel, rfl, by decide +kernel, by decide +kernel⟩, by decide, chk_most_in⟩
theorem dok_all_do (X : K.In h) (Gn : h.Ns mainGlobals mg) (c : He.SaysD fa fn K) : DefOk K mg Tb freeN errN consN D_all_do := by
  obtain ⟨fd, F⟩ := c.def_ 18 (d := d_all_do) rfl
  exact ⟨_, fd, _, _, _, F, He.glo_ok X Gn (c.fact 18 (f := .glo "all_do") rfl), FunD.bindsN F (fun _ _ _ _ _ _ us hl => match us, hl with | [_, _], _ => rfl), kwB_of F (fun _ _ _ _ _ _ ws hl => match ws, hl with | [_, _], _ => rfl), ⟨rfl, rfl, rfl, by decide +kernel, rfl, by decide +kernel, by decide +kernel⟩, by decide, chk_all_do⟩
theorem dok_is_lot_in (X : K.In h) (Gn : h.Ns mainGlobals mg) (c : He.SaysD fa fn K) : DefOk K mg Tb freeN errN consN D_is_lot_in := by
  obtain ⟨fd, F⟩ := c.def_ 19 (d := d_is_lot_in) rfl
  exact ⟨_, fd, _, _, _, F, He.glo_ok X Gn (c.fact 19 (f := .glo "is_lot_in") rfl), FunD.bindsN F (fun _ _ _ _ _ _ us hl => match us, hl with | [_, _, _], _ => rfl), kwB_of F (fun _ _ _ _ _ _ ws hl => match ws, hl with | [_, _, _], _ => rfl), ⟨rfl, rfl, rfl, by decide +kernel, rfl, by decide +kernel, by decide +kernel⟩, by decide, chk_is_lot_in⟩
theorem dok_crossings (X : K.In h) (Gn : h.Ns mainGlobals mg) (c : He.SaysD fa fn K) : DefOk K mg Tb freeN errN consN D_crossings := by
  obtain ⟨fd, F⟩ := c.def_ 20 (d := d_crossings) rfl
  exact ⟨_, fd, _, _, _, F, He.glo_ok X Gn (c.fact 20 (f := .glo "crossings") rfl), FunD.bindsN F (fun _ _ _ _ _ _ us hl => match us, hl with | [_], _ => rfl), kwB_of F (fun _ _ _ _ _ _ ws hl => match ws, hl with | [_], _ => rfl), ⟨rfl, rfl, rfl, by decide +kernel, rfl, by decide +kernel, by decide +kernel⟩, by decide, chk_crossings⟩
theorem dok_nestings (X : K.In h) (Gn : h.Ns mainGlobals mg) (c : He.SaysD fa fn K) : DefOk K mg Tb freeN errN consN D_nestings := by
  obtain ⟨fd, F⟩ := c.def_ 21 (d := d_nestings) rfl
  exact ⟨_, fd, _, _, _, F, He.glo_ok X Gn (c.fact 21 (f := .glo "nestings") rfl), FunD.bindsN F (fun _ _ _ _ _ _ us hl => match us, hl with | [_], _ => rfl), kwB_of F (fun _ _ _ _ _ _ ws hl => match ws, hl with | [_], _ => rfl), ⟨rfl, rfl, rfl, by decide +kernel, rfl, by decide +kernel, by decide +kernel⟩, by decide, chk_nestings⟩
theorem dok_most_crossing (X : K.In h) (Gn : h.Ns mainGlobals mg) (c : He.SaysD fa fn K) : DefOk K mg Tb freeN errN consN D_most_crossing := by
  obtain ⟨fd, F⟩ := c.def_ 22 (d := d_most_crossing) rfl
  exact ⟨_, fd, _, _, _, F, He.glo_ok X Gn (c.fact 22 (f := .glo "most_crossing") rfl), FunD.bindsN F (fun _ _ _ _ _ _ us hl => match us, hl with | [_], _ => rfl), kwB_of F (fun _ _ _ _ _ _ ws hl => match ws, hl with | [_], _ => rfl), ⟨rfl, rfl, rfl, by decide +kernel, rfl, by decide +kernel, by decide +kernel⟩, by decide, chk_most_crossing⟩
theorem dok_most_nested (X : K.In h) (Gn : h.Ns mainGlobals mg) (c : He.SaysD fa fn K) : DefOk K mg Tb freeN errN consN D_most_nested := by
  obtain ⟨fd, F⟩ := c.def_ 23 (d := d_most_nested) rfl
  exact ⟨_, fd, _, _, _, F, He.glo_ok X Gn (c.fact 23 (f := .glo "most_nested") rfl), FunD.bindsN F (fun _ _ _ _ _ _ us hl => match us, hl with | [_], _ => rfl), kwB_of F (fun _ _ _ _ _ _ ws hl => match ws, hl with | [_], _ => rfl), ⟨rfl, rfl, rfl, by decide +kernel, rfl, by decide +kernel, by decide +kernel⟩, by decide, chk_most_nested⟩
theorem dok_all_cross (X : K.In h) (Gn : h.Ns mainGlobals mg) (c : He.SaysD fa fn K) : DefOk K mg Tb freeN errN consN D_all_cross := by
  obtain ⟨fd, F⟩ := c.def_ 24 (d := d_all_cross) rfl
  exact ⟨_, fd, _, _, _, F, He.glo_ok X Gn (c.fact 24 (f := .glo "all_cross") rfl), FunD.bindsN F (fun _ _ _ _ _ _ us hl => match us, hl with | [_, _], _ => rfl), kwB_of F (fun _ _ _ _ _ _ ws hl => match ws, hl with | [_, _], _ => rfl), ⟨rfl, rfl, rfl, by decide +kernel, rfl, by decide +kernel, by decide +kernel⟩, by decide, chk_all_cross⟩
theorem dok_all_nested (X : K.In h) (Gn : h.Ns mainGlobals mg) (c : He.SaysD fa fn K) : DefOk K mg Tb freeN errN consN D_all_nested := by
  obtain ⟨fd, F⟩ := c.def_ 25 (d := d_all_nested) rfl
  exact ⟨_, fd, _, _, _, F, He.glo_ok X Gn (c.fact 25 (f := .glo "all_nested") rfl), FunD.bindsN F (fun _ _ _ _ _ _ us hl => match us, hl with | [_, _], _ => rfl), kwB_of F (fun _ _ _ _ _ _ ws hl => match ws, hl with | [_, _], _ => rfl), ⟨rfl, rfl, rfl, by decide +kernel, rfl, by decide +kernel, by decide +kernel⟩, by decide, chk_all_nested⟩
theorem dok__law_box (X : K.In h) (Gn : h.Ns mainGlobals mg) (c : He.SaysD fa fn K) : DefOk K mg Tb freeN errN consN D__law_box_3 := by
  obtain ⟨fd, F⟩ := c.def_ 26 (d := d__law_box) rfl
  exact ⟨_, fd, _, _, _, F, He.glo_ok X Gn (c.fact 26 (f := .glo "_law_box") rfl), FunD.bindsN F (fun _ _ _ _ _ _ us hl => match us, hl with | [_, _], _ => rfl), kwB_of F (fun _ _ _ _ _ _ ws hl => match ws, hl with | [_, _], _ => rfl), ⟨rfl, rfl, rfl, by decide +kernel, rfl, by decide +kernel, by decide +kernel⟩, by decide, chk__law_box⟩
theorem dok__law_take (X : K.In h) (Gn : h.Ns mainGlobals mg) (c : He.SaysD fa fn K) : DefOk K mg Tb freeN errN consN D__law_take := by
  obtain ⟨fd, F⟩ := c.def_ 27 (d := d__law_take) rfl
  exact ⟨_, fd, _, _, _, F, He.glo_ok X Gn (c.fact 27 (f := .glo "_law_take") rfl), FunD.bindsN F (fun _ _ _ _ _ _ us hl => match us, hl with | [_, _], _ => rfl), kwB_of F (fun _ _ _ _ _ _ ws hl => match ws, hl with | [_, _], _ => rfl), ⟨rfl, rfl, rfl, by decide +kernel, rfl, by decide +kernel, by decide +kernel⟩, by decide, chk__law_take⟩
theorem dok__law_cells (X : K.In h) (Gn : h.Ns mainGlobals mg) (c : He.SaysD fa fn K) : DefOk K mg Tb freeN errN consN D__law_cells := by
  obtain ⟨fd, F⟩ := c.def_ 28 (d := d__law_cells) rfl
  exact ⟨_, fd, _, _, _, F, He.glo_ok X Gn (c.fact 28 (f := .glo "_law_cells") rfl), FunD.bindsN F (fun _ _ _ _ _ _ us hl => match us, hl with | [_, _], _ => rfl), kwB_of F (fun _ _ _ _ _ _ ws hl => match ws, hl with | [_, _], _ => rfl), ⟨rfl, rfl, rfl, by decide +kernel, rfl, by decide +kernel, by decide +kernel⟩, by decide, chk__law_cells⟩
theorem dok__law_of (X : K.In h) (Gn : h.Ns mainGlobals mg) (c : He.SaysD fa fn K) : DefOk K mg Tb freeN errN consN D__law_of := by
  obtain ⟨fd, F⟩ := c.def_ 29 (d := d__law_of) rfl
  exact ⟨_, fd, _, _, _, F, He.glo_ok X Gn (c.fact 29 (f := .glo "_law_of") rfl), FunD.bindsN F (fun _ _ _ _ _ _ us hl => match us, hl with | [_, _], _ => rfl), kwB_of F (fun _ _ _ _ _ _ ws hl => match ws, hl with | [_, _], _ => rfl), ⟨rfl, rfl, rfl, by decide +kernel, rfl, by decide +kernel, by decide +kernel⟩, by decide, chk__law_of⟩
theorem dok__law_pick (X : K.In h) (Gn : h.Ns mainGlobals mg) (c : He.SaysD fa fn K) : DefOk K mg Tb freeN errN consN D__law_pick := by
  obtain ⟨fd, F⟩ := c.def_ 30 (d := d__law_pick) rfl
  exact ⟨_, fd, _, _, _, F, He.glo_ok X Gn (c.fact 30 (f := .glo "_law_pick") rfl), FunD.bindsN F (fun _ _ _ _ _ _ us hl => match us, hl with | [_, _, _], _ => rfl), kwB_of F (fun _ _ _ _ _ _ ws hl => match ws, hl with | [_, _, _], _ => rfl), ⟨rfl, rfl, rfl, by decide +kernel, rfl, by decide +kernel, by decide +kernel⟩, by decide, chk__law_pick⟩
theorem dok__law_lists (X : K.In h) (Gn : h.Ns mainGlobals mg) (c : He.SaysD fa fn K) : DefOk K mg Tb freeN errN consN D__law_lists := by
  obtain ⟨fd, F⟩ := c.def_ 31 (d := d__law_lists) rfl
  exact ⟨_, fd, _, _, _, F, He.glo_ok X Gn (c.fact 31 (f := .glo "_law_lists") rfl), FunD.bindsN F (fun _ _ _ _ _ _ us hl => match us, hl with | [_], _ => rfl), kwB_of F (fun _ _ _ _ _ _ ws hl => match ws, hl with | [_], _ => rfl), ⟨rfl, rfl, rfl, by decide +kernel, rfl, by decide +kernel, by decide +kernel⟩, by decide, chk__law_lists⟩
theorem dok__law_same (X : K.In h) (Gn : h.Ns mainGlobals mg) (c : He.SaysD fa fn K) : DefOk K mg Tb freeN errN consN D__law_same := by
  obtain ⟨fd, F⟩ := c.def_ 32 (d := d__law_same) rfl
  exact ⟨_, fd, _, _, _, F, He.glo_ok X Gn (c.fact 32 (f := .glo "_law_same") rfl), FunD.bindsN F (fun _ _ _ _ _ _ us hl => match us, hl with | [_, _], _ => rfl), kwB_of F (fun _ _ _ _ _ _ ws hl => match ws, hl with | [_, _], _ => rfl), ⟨rfl, rfl, rfl, by decide +kernel, rfl, by decide +kernel, by decide +kernel⟩, by decide, chk__law_same⟩
theorem dok__law_flat (X : K.In h) (Gn : h.Ns mainGlobals mg) (c : He.SaysD fa fn K) : DefOk K mg Tb freeN errN consN D__law_flat := by
  obtain ⟨fd, F⟩ := c.def_ 33 (d := d__law_flat) rfl
  exact ⟨_, fd, _, _, _, F, He.glo_ok X Gn (c.fact 33 (f := .glo "_law_flat") rfl), FunD.bindsN F (fun _ _ _ _ _ _ us hl => match us, hl with | [_], _ => rfl), kwB_of F (fun _ _ _ _ _ _ ws hl => match ws, hl with | [_], _ => rfl), ⟨rfl, rfl, rfl, by decide +kernel, rfl, by decide +kernel, by decide +kernel⟩, by decide, chk__law_flat⟩
theorem dok__law_parting (X : K.In h) (Gn : h.Ns mainGlobals mg) (c : He.SaysD fa fn K) : DefOk K mg Tb freeN errN consN D__law_parting := by
  obtain ⟨fd, F⟩ := c.def_ 34 (d := d__law_parting) rfl
  exact ⟨_, fd, _, _, _, F, He.glo_ok X Gn (c.fact 34 (f := .glo "_law_parting") rfl), FunD.bindsN F (fun _ _ _ _ _ _ us hl => match us, hl with | [_, _], _ => rfl), kwB_of F (fun _ _ _ _ _ _ ws hl => match ws, hl with | [_, _], _ => rfl), ⟨rfl, rfl, rfl, by decide +kernel, rfl, by decide +kernel, by decide +kernel⟩, by decide, chk__law_parting⟩
theorem dok__law_pairing (X : K.In h) (Gn : h.Ns mainGlobals mg) (c : He.SaysD fa fn K) : DefOk K mg Tb freeN errN consN D__law_pairing := by
  obtain ⟨fd, F⟩ := c.def_ 35 (d := d__law_pairing) rfl
  exact ⟨_, fd, _, _, _, F, He.glo_ok X Gn (c.fact 35 (f := .glo "_law_pairing") rfl), FunD.bindsN F (fun _ _ _ _ _ _ us hl => match us, hl with | [_, _], _ => rfl), kwB_of F (fun _ _ _ _ _ _ ws hl => match ws, hl with | [_, _], _ => rfl), ⟨rfl, rfl, rfl, by decide +kernel, rfl, by decide +kernel, by decide +kernel⟩, by decide, chk__law_pairing⟩
theorem dok__law_arcs (X : K.In h) (Gn : h.Ns mainGlobals mg) (c : He.SaysD fa fn K) : DefOk K mg Tb freeN errN consN D__law_arcs := by
  obtain ⟨fd, F⟩ := c.def_ 36 (d := d__law_arcs) rfl
  exact ⟨_, fd, _, _, _, F, He.glo_ok X Gn (c.fact 36 (f := .glo "_law_arcs") rfl), FunD.bindsN F (fun _ _ _ _ _ _ us hl => match us, hl with | [_], _ => rfl), kwB_of F (fun _ _ _ _ _ _ ws hl => match ws, hl with | [_], _ => rfl), ⟨rfl, rfl, rfl, by decide +kernel, rfl, by decide +kernel, by decide +kernel⟩, by decide, chk__law_arcs⟩
theorem dok__law_pairs (X : K.In h) (Gn : h.Ns mainGlobals mg) (c : He.SaysD fa fn K) : DefOk K mg Tb freeN errN consN D__law_pairs := by
  obtain ⟨fd, F⟩ := c.def_ 37 (d := d__law_pairs) rfl
  exact ⟨_, fd, _, _, _, F, He.glo_ok X Gn (c.fact 37 (f := .glo "_law_pairs") rfl), FunD.bindsN F (fun _ _ _ _ _ _ us hl => match us, hl with | [_], _ => rfl), kwB_of F (fun _ _ _ _ _ _ ws hl => match ws, hl with | [_], _ => rfl), ⟨rfl, rfl, rfl, by decide +kernel, rfl, by decide +kernel, by decide +kernel⟩, by decide, chk__law_pairs⟩
theorem dok__law_do (X : K.In h) (Gn : h.Ns mainGlobals mg) (c : He.SaysD fa fn K) : DefOk K mg Tb freeN errN consN D__law_do := by
  obtain ⟨fd, F⟩ := c.def_ 38 (d := d__law_do) rfl
  exact ⟨_, fd, _, _, _, F, He.glo_ok X Gn (c.fact 38 (f := .glo "_law_do") rfl), FunD.bindsN F (fun _ _ _ _ _ _ us hl => match us, hl with | [_, _, _], _ => rfl), kwB_of F (fun _ _ _ _ _ _ ws hl => match ws, hl with | [_, _, _], _ => rfl), ⟨rfl, rfl, rfl, by decide +kernel, rfl, by decide +kernel, by decide +kernel⟩, by decide, chk__law_do⟩
theorem dok__law_count (X : K.In h) (Gn : h.Ns mainGlobals mg) (c : He.SaysD fa fn K) : DefOk K mg Tb freeN errN consN D__law_count := by
  obtain ⟨fd, F⟩ := c.def_ 39 (d := d__law_count) rfl
  exact ⟨_, fd, _, _, _, F, He.glo_ok X Gn (c.fact 39 (f := .glo "_law_count") rfl), FunD.bindsN F (fun _ _ _ _ _ _ us hl => match us, hl with | [_, _], _ => rfl), kwB_of F (fun _ _ _ _ _ _ ws hl => match ws, hl with | [_, _], _ => rfl), ⟨rfl, rfl, rfl, by decide +kernel, rfl, by decide +kernel, by decide +kernel⟩, by decide, chk__law_count⟩
theorem dok__law_all_lots (X : K.In h) (Gn : h.Ns mainGlobals mg) (c : He.SaysD fa fn K) : DefOk K mg Tb freeN errN consN D__law_all_lots := by
  obtain ⟨fd, F⟩ := c.def_ 40 (d := d__law_all_lots) rfl
  exact ⟨_, fd, _, _, _, F, He.glo_ok X Gn (c.fact 40 (f := .glo "_law_all_lots") rfl), FunD.bindsN F (fun _ _ _ _ _ _ us hl => match us, hl with | [_, _], _ => rfl), kwB_of F (fun _ _ _ _ _ _ ws hl => match ws, hl with | [_, _], _ => rfl), ⟨rfl, rfl, rfl, by decide +kernel, rfl, by decide +kernel, by decide +kernel⟩, by decide, chk__law_all_lots⟩
theorem dok__law_most (X : K.In h) (Gn : h.Ns mainGlobals mg) (c : He.SaysD fa fn K) : DefOk K mg Tb freeN errN consN D__law_most := by
  obtain ⟨fd, F⟩ := c.def_ 41 (d := d__law_most) rfl
  exact ⟨_, fd, _, _, _, F, He.glo_ok X Gn (c.fact 41 (f := .glo "_law_most") rfl), FunD.bindsN F (fun _ _ _ _ _ _ us hl => match us, hl with | [_, _], _ => rfl), kwB_of F (fun _ _ _ _ _ _ ws hl => match ws, hl with | [_, _], _ => rfl), ⟨rfl, rfl, rfl, by decide +kernel, rfl, by decide +kernel, by decide +kernel⟩, by decide, chk__law_most⟩
theorem dok__law_right (X : K.In h) (Gn : h.Ns mainGlobals mg) (c : He.SaysD fa fn K) : DefOk K mg Tb freeN errN consN D__law_right_3 := by
  obtain ⟨fd, F⟩ := c.def_ 42 (d := d__law_right) rfl
  exact ⟨_, fd, _, _, _, F, He.glo_ok X Gn (c.fact 42 (f := .glo "_law_right") rfl), FunD.bindsN F (fun _ _ _ _ _ _ us hl => match us, hl with | [_], _ => rfl), kwB_of F (fun _ _ _ _ _ _ ws hl => match ws, hl with | [_], _ => rfl), ⟨rfl, rfl, rfl, by decide +kernel, rfl, by decide +kernel, by decide +kernel⟩, by decide, chk__law_right⟩
theorem dok_law (X : K.In h) (Gn : h.Ns mainGlobals mg) (c : He.SaysD fa fn K) : DefOk K mg Tb freeN errN consN D_law_3 := by
  obtain ⟨fd, F⟩ := c.def_ 43 (d := d_law) rfl
  exact ⟨_, fd, _, _, _, F, He.glo_ok X Gn (c.fact 43 (f := .glo "law") rfl), FunD.bindsN F (fun _ _ _ _ _ _ us hl => match us, hl with | [_], _ => rfl), kwB_of F (fun _ _ _ _ _ _ ws hl => match ws, hl with | [_], _ => rfl), ⟨rfl, rfl, rfl, by decide +kernel, rfl, by decide +kernel, by decide +kernel⟩, by decide, chk_law⟩
theorem dok_all (X : K.In h) (Gn : h.Ns mainGlobals mg) (c : He.SaysD fa fn K) : ∀ f d, Tb f = some d → DefOk K mg Tb freeN errN consN d := by
  intro f d e
  unfold Tb at e
  split at e
  · cases e; exact dok_is_number X Gn c
  · cases e; exact dok_is_long X Gn c
  · cases e; exact dok_are_numbers X Gn c
  · cases e; exact dok_ascends X Gn c
  · cases e; exact dok_tupled X Gn c
  · cases e; exact dok_joined X Gn c
  · cases e; exact dok_is_parting X Gn c
  · cases e; exact dok_sure_parting X Gn c
  · cases e; exact dok_size_in X Gn c
  · cases e; exact dok_arcs_in X Gn c
  · cases e; exact dok_are_arcs_in X Gn c
  · cases e; exact dok_arcs_of X Gn c
  · cases e; exact dok_do_cross X Gn c
  · cases e; exact dok_is_nested X Gn c
  · cases e; exact dok_pairs_of X Gn c
  · cases e; exact dok_count_in X Gn c
  · cases e; exact dok_longest_over X Gn c
  · cases e; exact dok_most_in X Gn c
  · cases e; exact dok_all_do X Gn c
  · cases e; exact dok_is_lot_in X Gn c
  · cases e; exact dok_crossings X Gn c
  · cases e; exact dok_nestings X Gn c
  · cases e; exact dok_most_crossing X Gn c
  · cases e; exact dok_most_nested X Gn c
  · cases e; exact dok_all_cross X Gn c
  · cases e; exact dok_all_nested X Gn c
  · cases e; exact dok__law_box X Gn c
  · cases e; exact dok__law_take X Gn c
  · cases e; exact dok__law_cells X Gn c
  · cases e; exact dok__law_of X Gn c
  · cases e; exact dok__law_pick X Gn c
  · cases e; exact dok__law_lists X Gn c
  · cases e; exact dok__law_same X Gn c
  · cases e; exact dok__law_flat X Gn c
  · cases e; exact dok__law_parting X Gn c
  · cases e; exact dok__law_pairing X Gn c
  · cases e; exact dok__law_arcs X Gn c
  · cases e; exact dok__law_pairs X Gn c
  · cases e; exact dok__law_do X Gn c
  · cases e; exact dok__law_count X Gn c
  · cases e; exact dok__law_all_lots X Gn c
  · cases e; exact dok__law_most X Gn c
  · cases e; exact dok__law_right X Gn c
  · cases e; exact dok_law X Gn c
  · cases e
theorem place_ok (X : K.In h) (Gn : h.Ns mainGlobals mg) (c : He.SaysD fa fn K) : Place K mg ⟨K, mg, nmT Tb⟩ Tb freeN errN consN := by
  refine ⟨fun f d e => by show nmT Tb f = d.name; unfold nmT; rw [e], rfl, rfl, ?_, ?_, cons_all ?_⟩
  · intro x hx
    simp only [freeN, List.mem_cons, List.not_mem_nil, or_false] at hx
    rcases hx with rfl | rfl | rfl | rfl | rfl | rfl | rfl | rfl | rfl | rfl | rfl | rfl | rfl | rfl | rfl | rfl | rfl
    · exact He.free_ok X Gn (c.fact 46 (f := .free "abs") rfl)
    · exact He.free_ok X Gn (c.fact 47 (f := .free "all") rfl)
    · exact He.free_ok X Gn (c.fact 48 (f := .free "bool") rfl)
    · exact He.free_ok X Gn (c.fact 49 (f := .free "enumerate") rfl)
    · exact He.free_ok X Gn (c.fact 50 (f := .free "int") rfl)
    · exact He.free_ok X Gn (c.fact 51 (f := .free "isinstance") rfl)
    · exact He.free_ok X Gn (c.fact 52 (f := .free "len") rfl)
    · exact He.free_ok X Gn (c.fact 53 (f := .free "list") rfl)
    · exact He.free_ok X Gn (c.fact 54 (f := .free "max") rfl)
    · exact He.free_ok X Gn (c.fact 55 (f := .free "min") rfl)
    · exact He.free_ok X Gn (c.fact 56 (f := .free "range") rfl)
    · exact He.free_ok X Gn (c.fact 57 (f := .free "set") rfl)
    · exact He.free_ok X Gn (c.fact 58 (f := .free "sorted") rfl)
    · exact He.free_ok X Gn (c.fact 59 (f := .free "str") rfl)
    · exact He.free_ok X Gn (c.fact 60 (f := .free "sum") rfl)
    · exact He.free_ok X Gn (c.fact 61 (f := .free "tuple") rfl)
    · exact He.free_ok X Gn (c.fact 62 (f := .free "zip") rfl)
  · intro x hx
    simp only [errN, List.mem_cons, List.not_mem_nil, or_false] at hx
    subst hx
    · exact ⟨_, He.glo_ok X Gn (c.fact 45 (f := .glo "Unfit") rfl), He.exc_ok (c.fact 44 (f := .exc "Unfit") rfl)⟩
  · intro p hp
    simp only [consN, List.mem_cons, List.not_mem_nil, or_false] at hp
    rcases hp with rfl | rfl | rfl | rfl | rfl
    · exact ⟨.ref _, _, He.glo_ok X Gn (c.fact 12 (f := .glo "do_cross") rfl), rfl, fun L φ H => by simp only [Rep]; exact ⟨_, He.glo_ok X Gn (c.fact 12 (f := .glo "do_cross") rfl), rfl⟩⟩
    · exact ⟨.ref _, _, He.glo_ok X Gn (c.fact 13 (f := .glo "is_nested") rfl), rfl, fun L φ H => by simp only [Rep]; exact ⟨_, He.glo_ok X Gn (c.fact 13 (f := .glo "is_nested") rfl), rfl⟩⟩
    · obtain ⟨t, e⟩ := He.int_ok X Gn (c.fact 63 (f := .int "MOST_THINGS" 30) rfl)
      exact ⟨.int 30, _, e, ⟨t, rfl⟩, fun L φ H => by simp only [Rep]⟩
    · obtain ⟨t, e⟩ := He.int_ok X Gn (c.fact 64 (f := .int "CROSSING" 1) rfl)
      exact ⟨.int 1, _, e, ⟨t, rfl⟩, fun L φ H => by simp only [Rep]⟩
    · obtain ⟨t, e⟩ := He.int_ok X Gn (c.fact 65 (f := .int "NESTED" (-1)) rfl)
      exact ⟨.int (-1), _, e, ⟨t, rfl⟩, fun L φ H => by simp only [Rep]⟩
end
end M
set_option Elab.async false
set_option linter.all false
set_option maxRecDepth 100000
set_option maxHeartbeats 4000000
/-! Tools for what the defs compute. -/
namespace M
open PySem
theorem call_succ {T : Nat → Option Def} {f : Nat} {d : Def} (h : T f = some d) (k : Nat) (ds : List D) (τ : Store) : M.call T (k + 1) f ds τ = runDef (M.call T k) d ds τ := by
  show (match T f with | some df => runDef (M.call T k) df ds τ | none => .stuck) = _
  rw [h]
/-- ranges that can be told -/
def rOk1 (j : Int) : Prop := bigI j = true ∧ j ≤ 1000000
def rOk2 (i j : Int) : Prop := bigI i = true ∧ bigI j = true ∧ j - i ≤ 1000000
theorem rOk1_of {j : Int} (h1 : -1000 ≤ j) (h2 : j ≤ 1000) : rOk1 j := by unfold rOk1 bigI; rw [Bool.and_eq_true, decide_eq_true_eq, decide_eq_true_eq]; omega
theorem rOk2_of {i j : Int} (h1 : -1000 ≤ j) (h2 : j ≤ 1000) (h3 : -1000 ≤ i) (h4 : i ≤ 1000) : rOk2 i j := by unfold rOk2 bigI; rw [Bool.and_eq_true, Bool.and_eq_true, decide_eq_true_eq, decide_eq_true_eq, decide_eq_true_eq, decide_eq_true_eq]; omega
open Classical in
/-- a told range (decided by no sum: the kernel is not to count) -/
noncomputable def okIf {α : Type} (p : Prop) (a : α) : Out α := if p then .ok a else .stuck
theorem okIf_eq {α : Type} (p : Prop) [Decidable p] (a : α) : okIf p a = if p then .ok a else .stuck := by
  unfold okIf
  by_cases h : p
  · rw [if_pos h, if_pos h]
  · rw [if_neg h, if_neg h]
theorem okIf_ok {α : Type} {p : Prop} {a : α} (h : p) : okIf p a = .ok a := if_pos h
noncomputable def rGo (tp : Bool) (i j : Int) (τ : Store) : Out (D × Store) := okIf (rOk2 i j) (seqD tp (intRange i j), τ)
noncomputable def rGo1 (tp : Bool) (j : Int) (τ : Store) : Out (D × Store) := okIf (rOk1 j) (seqD tp (intRange 0 j), τ)
noncomputable def rIt (i j : Int) (τ : Store) : Out ((List D × Option Nat) × Store) := okIf (rOk2 i j) ((intRange i j, none), τ)
noncomputable def rIt1 (j : Int) (τ : Store) : Out ((List D × Option Nat) × Store) := okIf (rOk1 j) ((intRange 0 j, none), τ)
theorem rGo_eq (tp : Bool) (i j : Int) (τ : Store) : rGo tp i j τ = if bigI i = true ∧ bigI j = true ∧ j - i ≤ 1000000 then .ok (seqD tp (intRange i j), τ) else .stuck := okIf_eq (bigI i = true ∧ bigI j = true ∧ j - i ≤ 1000000) _
theorem rGo1_eq (tp : Bool) (j : Int) (τ : Store) : rGo1 tp j τ = if bigI j = true ∧ j ≤ 1000000 then .ok (seqD tp (intRange 0 j), τ) else .stuck := okIf_eq (bigI j = true ∧ j ≤ 1000000) _
theorem rIt_eq (i j : Int) (τ : Store) : rIt i j τ = if bigI i = true ∧ bigI j = true ∧ j - i ≤ 1000000 then .ok ((intRange i j, none), τ) else .stuck := okIf_eq (bigI i = true ∧ bigI j = true ∧ j - i ≤ 1000000) _
theorem rIt1_eq (j : Int) (τ : Store) : rIt1 j τ = if bigI j = true ∧ j ≤ 1000000 then .ok ((intRange 0 j, none), τ) else .stuck := okIf_eq (bigI j = true ∧ j ≤ 1000000) _
theorem rGo_ok {tp : Bool} {i j : Int} {τ : Store} (h : rOk2 i j) : rGo tp i j τ = .ok (seqD tp (intRange i j), τ) := okIf_ok h
theorem rGo1_ok {tp : Bool} {j : Int} {τ : Store} (h : rOk1 j) : rGo1 tp j τ = .ok (seqD tp (intRange 0 j), τ) := okIf_ok h
theorem rIt_ok {i j : Int} {τ : Store} (h : rOk2 i j) : rIt i j τ = .ok ((intRange i j, none), τ) := okIf_ok h
theorem rIt1_ok {j : Int} {τ : Store} (h : rOk1 j) : rIt1 j τ = .ok ((intRange 0 j, none), τ) := okIf_ok h
section
variable (cl : Calls) (b : Nat) (ρ : M.Env) (τ : Store)
@[simp] theorem E_var (i : Nat) : E cl b (.var i) ρ τ = (match ρ[i]? with | some (some d) => .ok (d, τ) | _ => .stuck) := by (rw [E]) <;> rfl
@[simp] theorem E_con (d : D) : E cl b (.con d) ρ τ = .ok (d, τ) := by (rw [E]) <;> rfl
@[simp] theorem E_glob (x : Str) (d : D) : E cl b (.glob x d) ρ τ = .ok (d, τ) := by (rw [E]) <;> rfl
@[simp] theorem E_bin (o x y) : E cl b (.bin o x y) ρ τ = (E cl b x ρ τ).bind fun x => (E cl b y ρ x.2).bind fun y => (ofO (binF o (hd y.2 x.1) (hd y.2 y.1))).bind fun d => .ok (d, y.2) := by (rw [E]) <;> rfl
@[simp] theorem E_neg (x) : E cl b (.neg x) ρ τ = (E cl b x ρ τ).bind fun x => (match x.1 with | .int i => .ok (.int (-i), x.2) | _ => .stuck) := by (rw [E]) <;> rfl
@[simp] theorem E_cmp (o x y) : E cl b (.cmp o x y) ρ τ = (E cl b x ρ τ).bind fun x => (E cl b y ρ x.2).bind fun y => (ofO (cmpF o (hd y.2 x.1) (hd y.2 y.1))).bind fun d => .ok (.bl d, y.2) := by (rw [E]) <;> rfl
@[simp] theorem E_cmp2 (o p x y z) : E cl b (.cmp2 o p x y z) ρ τ = (E cl b x ρ τ).bind fun x => (E cl b y ρ x.2).bind fun y => (ofO (cmpF o (hd y.2 x.1) (hd y.2 y.1))).bind fun d =>
      if d = true then (E cl b z ρ y.2).bind fun z => (ofO (cmpF p (hd z.2 y.1) (hd z.2 z.1))).bind fun d' => .ok (.bl d', z.2) else .ok (.bl false, y.2) := by (rw [E]) <;> rfl
@[simp] theorem E_cmp3 (o p q x y z u) : E cl b (.cmp3 o p q x y z u) ρ τ = (E cl b x ρ τ).bind fun x => (E cl b y ρ x.2).bind fun y => (ofO (cmpF o (hd y.2 x.1) (hd y.2 y.1))).bind fun k =>
      if k = true then (E cl b z ρ y.2).bind fun z => (ofO (cmpF p (hd z.2 y.1) (hd z.2 z.1))).bind fun k' =>
        if k' = true then (E cl b u ρ z.2).bind fun u => (ofO (cmpF q (hd u.2 z.1) (hd u.2 u.1))).bind fun k'' => .ok (.bl k'', u.2) else .ok (.bl false, z.2)
      else .ok (.bl false, y.2) := by (rw [E]) <;> rfl
@[simp] theorem E_band (xs) : E cl b (.band xs) ρ τ = EAnd cl b xs ρ τ := by (rw [E]) <;> rfl
@[simp] theorem E_bor (xs) : E cl b (.bor xs) ρ τ = EOr cl b xs ρ τ := by (rw [E]) <;> rfl
@[simp] theorem E_bnot (x) : E cl b (.bnot x) ρ τ = (E cl b x ρ τ).bind fun x => (ofO (tru (hd x.2 x.1))).bind fun k => .ok (.bl (!k), x.2) := by (rw [E]) <;> rfl
@[simp] theorem E_ite (t x y) : E cl b (.ite t x y) ρ τ = (E cl b t ρ τ).bind fun q => (ofO (tru (hd q.2 q.1))).bind fun k => if k = true then E cl b x ρ q.2 else E cl b y ρ q.2 := by (rw [E]) <;> rfl
@[simp] theorem E_idx (x y) : E cl b (.idx x y) ρ τ = (E cl b x ρ τ).bind fun x => (E cl b y ρ x.2).bind fun y => (ofO (idxF (hd y.2 x.1) y.1)).bind fun d => .ok (d, y.2) := by (rw [E]) <;> rfl
@[simp] theorem E_slice (x lo hi) : E cl b (.slice x lo hi) ρ τ = (E cl b x ρ τ).bind fun x => (EO cl b lo ρ x.2).bind fun l => (EO cl b hi ρ l.2).bind fun h => (ofO (sliceF l.1 h.1 (hd h.2 x.1))).bind fun d => .ok (d, h.2) := by (rw [E]) <;> rfl
@[simp] theorem E_tup (xs) : E cl b (.tup xs) ρ τ = (EA cl b xs ρ τ).bind fun r => if r.1.length ≤ 1000000 then .ok (.tup r.1, r.2) else .stuck := by (rw [E]) <;> rfl
@[simp] theorem E_lst (xs) : E cl b (.lst xs) ρ τ = (EA cl b xs ρ τ).bind fun r => if r.1.length ≤ 1000000 then .ok (.lst r.1, r.2) else .stuck := by (rw [E]) <;> rfl
@[simp] theorem E_alloc (x) : E cl b (.alloc x) ρ τ = (E cl b x ρ τ).bind fun x => (match x.1 with | .lst xs => .ok (.ref x.2.length, x.2 ++ [some xs]) | _ => .stuck) := by (rw [E]) <;> rfl
@[simp] theorem E_lc (elt tg it ifs own) : E cl b (.lc elt tg it ifs own) ρ τ = (EI cl b it ρ τ).bind fun s => lcOut s.1.2 (fun d τ1 => lcTurn (wipeE ρ (own.map (·.2))) tg (EC cl b ifs) (E cl b elt) d τ1) s.1.1 s.2 := by (rw [E]) <;> rfl
@[simp] theorem E_call (f xs) : E cl b (.call f xs) ρ τ = (EA cl b xs ρ τ).bind fun r => cl f r.1 r.2 := by (rw [E]) <;> rfl
@[simp] theorem E_blt (o x) : E cl b (.blt o x) ρ τ = (E cl b x ρ τ).bind fun x => (ofO (bltF o (hd x.2 x.1))).bind fun d => .ok (d, x.2) := by (rw [E]) <;> rfl
@[simp] theorem E_isi (x ts) : E cl b (.isi x ts) ρ τ = (E cl b x ρ τ).bind fun x => (ofO (isTys (hd x.2 x.1) ts)).bind fun k => .ok (.bl k, x.2) := by (rw [E]) <;> rfl
@[simp] theorem E_mut (m x y) : E cl b (.mut m x y) ρ τ = (E cl b x ρ τ).bind fun x => (ofO (cellOf x.2 x.1)).bind fun n => (E cl b y ρ x.2).bind fun y => (ofO (cellGet y.2 n)).bind fun xs =>
      (ofO (mutF b n xs (mutArg m y.2 y.1) m)).bind fun r => .ok (r.2, y.2.set n (some r.1)) := by (rw [E]) <;> rfl
@[simp] theorem E_count (x y) : E cl b (.count x y) ρ τ = (E cl b x ρ τ).bind fun x => (ofO (isL (hd x.2 x.1))).bind fun _ => (E cl b y ρ x.2).bind fun y => (ofO (countF (hd y.2 x.1) y.1)).bind fun d => .ok (d, y.2) := by (rw [E]) <;> rfl
@[simp] theorem E_lenset (x) : E cl b (.lenset x) ρ τ = (E cl b x ρ τ).bind fun x => (ofO (lensetF (hd x.2 x.1))).bind fun d => .ok (d, x.2) := by (rw [E]) <;> rfl
@[simp] theorem E_sortR (x) : E cl b (.sortR x) ρ τ = (E cl b x ρ τ).bind fun x => (ofO (sortRF (hd x.2 x.1))).bind fun d => .ok (d, x.2) := by (rw [E]) <;> rfl
@[simp] theorem E_lrange (tp x) : E cl b (.lrange tp x) ρ τ = (E cl b x ρ τ).bind fun x => (match x.1 with
    | .int j => rGo1 tp j x.2
    | _ => .stuck) := by
  simp only [rGo1_eq]
  rw [E] <;> rfl
@[simp] theorem E_lrange2 (tp x y) : E cl b (.lrange2 tp x y) ρ τ = (E cl b x ρ τ).bind fun x => (E cl b y ρ x.2).bind fun y => (match x.1, y.1 with
    | .int i, .int j => rGo tp i j y.2
    | _, _ => .stuck) := by
  simp only [rGo_eq]
  rw [E] <;> rfl
@[simp] theorem E_lzip (x y) : E cl b (.lzip x y) ρ τ = (E cl b x ρ τ).bind fun x => (E cl b y ρ x.2).bind fun y => (ofO (zipF x.1 y.1)).bind fun zs => .ok (.lst zs, y.2) := by (rw [E]) <;> rfl
@[simp] theorem E_mm2 (mx x y) : E cl b (.mm2 mx x y) ρ τ = (E cl b x ρ τ).bind fun x => (E cl b y ρ x.2).bind fun y => (match x.1, y.1 with
    | .int i, .int j => .ok (.int (if mx = true then (if j > i then j else i) else if j < i then j else i), y.2)
    | _, _ => .stuck) := by (rw [E]) <;> rfl
@[simp] theorem E_rep (x k) : E cl b (.rep x k) ρ τ = (E cl b x ρ τ).bind fun x => (match x.1 with
    | .lst xs => if bigI k = true ∧ xs.length * k.toNat ≤ 1000000 then .ok (.lst (List.replicate k.toNat xs).flatten, x.2) else .stuck
    | _ => .stuck) := by (rw [E]) <;> rfl
@[simp] theorem E_callv (i xs) : E cl b (.callv i xs) ρ τ = (match ρ[i]? with
    | some (some (.fn f)) => (match EA cl b xs ρ τ with
      | .ok r => cl f r.1 r.2
      | _ => .stuck)
    | _ => .stuck) := by (rw [E]) <;> rfl
@[simp] theorem E_lc2 (elt tg it ifs tg1 it1 ifs1 own vs1) : E cl b (.lc2 elt tg it ifs tg1 it1 ifs1 own vs1) ρ τ = (EI cl b it ρ τ).bind fun s => lcOut2 s.1.2 (fun d τ1 => lcTurn2 (wipeE ρ (own.map (·.2))) tg (EC cl b ifs) (fun ρ2 τ2 =>
      (EI cl b it1 ρ2 τ2).bind fun s1 => lcLoop s1.1.2 (fun d τ3 => lcTurn (wipeE ρ2 vs1) tg1 (EC cl b ifs1) (E cl b elt) d τ3) s1.1.1 s1.2) d τ1) s.1.1 s.2 := by (rw [E]) <;> rfl
@[simp] theorem EA_nil : EA cl b .nil ρ τ = .ok ([], τ) := by (rw [EA]) <;> rfl
@[simp] theorem EA_cons (x r) : EA cl b (.cons x r) ρ τ = (E cl b x ρ τ).bind fun x => (EA cl b r ρ x.2).bind fun q => .ok (x.1 :: q.1, q.2) := by (rw [EA]) <;> rfl
@[simp] theorem EAnd_one (x) : EAnd cl b (.cons x .nil) ρ τ = E cl b x ρ τ := by (rw [EAnd]) <;> rfl
@[simp] theorem EAnd_cons (x y r) : EAnd cl b (.cons x (.cons y r)) ρ τ = (E cl b x ρ τ).bind fun q => (ofO (tru (hd q.2 q.1))).bind fun k => if k = true then EAnd cl b (.cons y r) ρ q.2 else .ok q := by rw [EAnd]; intro h; cases h
@[simp] theorem EOr_one (x) : EOr cl b (.cons x .nil) ρ τ = E cl b x ρ τ := by (rw [EOr]) <;> rfl
@[simp] theorem EOr_cons (x y r) : EOr cl b (.cons x (.cons y r)) ρ τ = (E cl b x ρ τ).bind fun q => (ofO (tru (hd q.2 q.1))).bind fun k => if k = true then .ok q else EOr cl b (.cons y r) ρ q.2 := by rw [EOr]; intro h; cases h
@[simp] theorem EO_none : EO cl b .none ρ τ = .ok (none, τ) := by (rw [EO]) <;> rfl
@[simp] theorem EO_some (x) : EO cl b (.some x) ρ τ = (E cl b x ρ τ).bind fun x => (match x.1 with | .int i => .ok (some i, x.2) | _ => .stuck) := by (rw [EO]) <;> rfl
@[simp] theorem EC_none : EC cl b .none ρ τ = .ok (true, τ) := by (rw [EC]) <;> rfl
@[simp] theorem EC_some (x) : EC cl b (.some x) ρ τ = (E cl b x ρ τ).bind fun x => (ofO (tru (hd x.2 x.1))).bind fun k => .ok (k, x.2) := by (rw [EC]) <;> rfl
@[simp] theorem EI_over (x) : EI cl b (.over x) ρ τ = (E cl b x ρ τ).bind fun x => (ofO (items (hd x.2 x.1))).bind fun xs => .ok ((xs, watch x.1), x.2) := by (rw [EI]) <;> rfl
@[simp] theorem EI_range1 (x) : EI cl b (.range1 x) ρ τ = (E cl b x ρ τ).bind fun x => (match x.1 with
    | .int j => rIt1 j x.2
    | _ => .stuck) := by
  simp only [rIt1_eq]
  rw [EI] <;> rfl
@[simp] theorem EI_range2 (x y) : EI cl b (.range2 x y) ρ τ = (E cl b x ρ τ).bind fun x => (E cl b y ρ x.2).bind fun y => (match x.1, y.1 with
    | .int i, .int j => rIt i j y.2
    | _, _ => .stuck) := by
  simp only [rIt_eq]
  rw [EI] <;> rfl
@[simp] theorem EI_zip (x y) : EI cl b (.zip x y) ρ τ = (E cl b x ρ τ).bind fun x => (E cl b y ρ x.2).bind fun y => (ofO (zipF x.1 y.1)).bind fun zs => .ok ((zs, none), y.2) := by (rw [EI]) <;> rfl
@[simp] theorem EI_enum (x) : EI cl b (.enum x) ρ τ = (E cl b x ρ τ).bind fun x => (ofO (items (hd x.2 x.1))).bind fun xs => .ok ((enumD 0 xs, watch x.1), x.2) := by (rw [EI]) <;> rfl
@[simp] theorem SL_nil : SL cl b [] ρ τ = .nx ρ τ := by (rw [SL]) <;> rfl
@[simp] theorem SL_cons (s r) : SL cl b (s :: r) ρ τ = (S cl b s ρ τ).seq (SL cl b r) := by (rw [SL]) <;> rfl
@[simp] theorem S_asg (tg x) : S cl b (.asg tg x) ρ τ = (E cl b x ρ τ).to ρ fun d τ1 => (match setTgt ρ tg d with | some ρ' => .nx ρ' τ1 | none => .stuck) := by (rw [S]) <;> rfl
@[simp] theorem S_setidx (a i e) : S cl b (.setidx a i e) ρ τ = (E cl b e ρ τ).to ρ fun d τ1 => (E cl b a ρ τ1).to ρ fun x τ2 => (E cl b i ρ τ2).to ρ fun y τ3 => (match setIdx b x y d τ3 with | some τ4 => .nx ρ τ4 | none => .stuck) := by (rw [S]) <;> rfl
@[simp] theorem S_expr (x) : S cl b (.expr x) ρ τ = (E cl b x ρ τ).to ρ fun _ τ1 => .nx ρ τ1 := by (rw [S]) <;> rfl
@[simp] theorem S_ret (x) : S cl b (.ret x) ρ τ = (E cl b x ρ τ).to ρ fun d τ1 => .rt d τ1 := by (rw [S]) <;> rfl
@[simp] theorem S_retv (i) : S cl b (.retv i) ρ τ = (match ρ[i]? with | some (some (.ref n)) => .rt (.ref n) τ | _ => .stuck) := by (rw [S]) <;> rfl
@[simp] theorem S_ite (t x y) : S cl b (.ite t x y) ρ τ = (E cl b t ρ τ).to ρ fun q τ1 => (match tru (hd τ1 q) with
    | some true => SL cl b x ρ τ1
    | some false => SL cl b y ρ τ1
    | none => .stuck) := by (rw [S]) <;> rfl
@[simp] theorem S_raise (c) : S cl b (.raise c) ρ τ = .exc c .non ρ τ := by (rw [S]) <;> rfl
end
/-- a loop's body -/
noncomputable def loopF (cl : Calls) (b : Nat) (tg : MTgt) (body : List MStmt) : D → M.Env → Store → Res := fun d ρ1 τ1 => (match setTgt ρ1 tg d with
    | some ρ2 => SL cl b body ρ2 τ1
    | none => .stuck)
section
variable (cl : Calls) (b : Nat) (ρ : M.Env) (τ : Store)
@[simp] theorem S_loop (tg it body) : S cl b (.loop tg it body) ρ τ = (EI cl b it ρ τ).to ρ fun s τ' => forLoop s.2 (loopF cl b tg body) s.1 ρ τ' := by (rw [S]) <;> rfl
theorem loopF_n (i : Nat) (body : List MStmt) (d : D) : loopF cl b (.n i) body d ρ τ = SL cl b body (ρ.set i (some d)) τ := rfl
end
@[simp] theorem setTgt_n (ρ : M.Env) (i : Nat) (d : D) : setTgt ρ (.n i) d = some (ρ.set i (some d)) := rfl
@[simp] theorem Out_to_ok' {α : Type} (q : α × Store) (ρ : M.Env) (f : α → Store → Res) : (Out.ok q).to ρ f = f q.1 q.2 := rfl
/-- no cell, no def, at the top -/
def flat : D → Bool
  | .ref _ => false
  | .fn _ => false
  | _ => true
@[simp] theorem hd_non (τ : Store) : hd τ .non = .non := rfl
@[simp] theorem hd_blS (τ : Store) (b : Bool) : hd τ (.bl b) = .bl b := rfl
@[simp] theorem hd_int (τ : Store) (i : Int) : hd τ (.int i) = .int i := rfl
@[simp] theorem hd_str (τ : Store) (i : Str) : hd τ (.str i) = .str i := rfl
@[simp] theorem hd_tup (τ : Store) (xs : List D) : hd τ (.tup xs) = .tup xs := rfl
@[simp] theorem hd_lst (τ : Store) (xs : List D) : hd τ (.lst xs) = .lst xs := rfl
@[simp] theorem hd_fn (τ : Store) (i : Nat) : hd τ (.fn i) = .fn i := rfl
theorem hd_flat {τ : Store} {d : D} (h : flat d = true) : hd τ d = d := by cases d <;> first | rfl | cases h
theorem hd_ref {τ : Store} {n : Nat} {xs : List D} (h : τ[n]? = some (some xs)) : hd τ (.ref n) = .lst xs := by simp only [hd, h]
@[simp] theorem same_none (τ τ' : Store) : same τ τ' none := trivial
@[simp] theorem same_self (τ : Store) (w : Option Nat) : same τ τ w := by cases w <;> first | trivial | rfl
@[simp] theorem watch_tup (xs : List D) : watch (.tup xs) = none := rfl
@[simp] theorem watch_lst (xs : List D) : watch (.lst xs) = none := rfl
@[simp] theorem items_tup (xs : List D) : items (.tup xs) = some xs := rfl
@[simp] theorem items_lst (xs : List D) : items (.lst xs) = some xs := rfl
@[simp] theorem tru_blS (b : Bool) : tru (.bl b) = some b := rfl
@[simp] theorem tru_int (i : Int) : tru (.int i) = some (i != 0) := rfl
@[simp] theorem tru_lst (xs : List D) : tru (.lst xs) = some (!xs.isEmpty) := rfl
@[simp] theorem tru_tup (xs : List D) : tru (.tup xs) = some (!xs.isEmpty) := rfl
@[simp] theorem cmp_lt (a b : Int) : cmpF .lt (.int a) (.int b) = some (decide (a < b)) := rfl
@[simp] theorem cmp_le (a b : Int) : cmpF .le (.int a) (.int b) = some (decide (a ≤ b)) := rfl
@[simp] theorem cmp_gt (a b : Int) : cmpF .gt (.int a) (.int b) = some (decide (b < a)) := rfl
@[simp] theorem cmp_ge (a b : Int) : cmpF .ge (.int a) (.int b) = some (decide (b ≤ a)) := rfl
@[simp] theorem cmp_eq (a b : D) : cmpF .eq a b = peq a b := by unfold cmpF; rfl
@[simp] theorem cmp_ne (a b : D) : cmpF .ne a b = (peq a b).map not := by unfold cmpF; rfl
@[simp] theorem cmp_in (a b : D) : cmpF .in_ a b = inF a b := by unfold cmpF; rfl
@[simp] theorem cmp_isnon (a : D) : cmpF .is_ a .non = some (isNon a) := by unfold cmpF; rfl
@[simp] theorem cmp_isbl (a b : Bool) : cmpF .is_ (.bl a) (.bl b) = some (a == b) := rfl
@[simp] theorem peq_int (a b : Int) : peq (.int a) (.int b) = some (decide (a = b)) := by
  have e : (a == b) = decide (a = b) := by by_cases h : a = b <;> simp [h]
  simp [peq, py, SeqAt.shaped, PyData.canLay0, PyData.depth, PyData.eqv, e]
@[simp] theorem peq_bl (a b : Bool) : peq (.bl a) (.bl b) = some (a == b) := by
  simp [peq, py, SeqAt.shaped, PyData.canLay0, PyData.depth, PyData.eqv]
@[simp] theorem bin_add (a b : Int) : binF .add (.int a) (.int b) = some (.int (a + b)) := rfl
@[simp] theorem bin_sub (a b : Int) : binF .sub (.int a) (.int b) = some (.int (a - b)) := rfl
@[simp] theorem len_tup (xs : List D) : bltF .len (.tup xs) = some (.int xs.length) := rfl
@[simp] theorem len_lst (xs : List D) : bltF .len (.lst xs) = some (.int xs.length) := rfl
@[simp] theorem tuple_tup (xs : List D) : bltF .tuple (.tup xs) = some (.tup xs) := rfl
@[simp] theorem tuple_lst (xs : List D) : bltF .tuple (.lst xs) = some (.tup xs) := rfl
@[simp] theorem list_tup (xs : List D) : bltF .list (.tup xs) = some (.lst xs) := rfl
@[simp] theorem list_lst (xs : List D) : bltF .list (.lst xs) = some (.lst xs) := rfl
@[simp] theorem int_int (i : Int) : bltF .int (.int i) = some (.int i) := rfl
@[simp] theorem int_bl (i : Bool) : bltF .int (.bl i) = some (.int (if i then 1 else 0)) := rfl
/-! ### runs -/
theorem run_rt {cl : Calls} {df : Def} {ds : List D} {τ : Store} {d : D} {τ' : Store} (hl : ds.length = df.np) (h : SL cl τ.length df.body (startE df.N ds) τ = .rt d τ') (hf : fin τ.length τ' d = some d) : runDef cl df ds τ = .ok (d, τ'.take τ.length) := by
  unfold runDef
  rw [if_pos hl, h]
  simp only [hf]
theorem fin_nr {n : Nat} {τ : Store} {d : D} (h : noRef d = true) : fin n τ d = some d := by
  cases d <;> first
    | (simp only [noRef] at h; cases h; done)
    | (simp only [fin, h, if_true])
/-- a def that leaves the store -/
theorem run_val {cl : Calls} {df : Def} {ds : List D} {τ : Store} {d : D} (hl : ds.length = df.np) (h : SL cl τ.length df.body (startE df.N ds) τ = .rt d τ) (hf : noRef d = true) : runDef cl df ds τ = .ok (d, τ) := by
  rw [run_rt hl h (fin_nr hf), List.take_of_length_le (Nat.le_refl _)]
@[simp] theorem nr_int (i : Int) : noRef (.int i) = true := by simp only [noRef]
@[simp] theorem nr_bl (i : Bool) : noRef (.bl i) = true := by simp only [noRef]
@[simp] theorem nr_non : noRef .non = true := by simp only [noRef]
@[simp] theorem nr_str (i : Str) : noRef (.str i) = true := by simp only [noRef]
@[simp] theorem nr_tup (xs : List D) : noRef (.tup xs) = noRefs xs := by simp only [noRef]
@[simp] theorem nr_lst (xs : List D) : noRef (.lst xs) = noRefs xs := by simp only [noRef]
theorem nrs_iff : ∀ {xs : List D}, noRefs xs = true ↔ ∀ x ∈ xs, noRef x = true
  | [] => by simp [noRefs]
  | x :: xs => by simp [noRefs, nrs_iff (xs := xs)]
theorem nrs_map {α : Type} {e : α → D} {xs : List α} (h : ∀ x, noRef (e x) = true) : noRefs (xs.map e) = true := nrs_iff.mpr fun y hy => by
  obtain ⟨x, _, rfl⟩ := List.mem_map.mp hy
  exact h x
/-! ### comprehensions -/
theorem lcLoop_pure {w : Option Nat} {g : D → Store → Out (Option D × Store)} {F : D → Option D} {τ : Store} : ∀ {xs : List D}, (∀ x ∈ xs, g x τ = .ok (F x, τ)) → lcLoop w g xs τ = .ok (xs.filterMap F, τ)
  | [], _ => by simp only [lcLoop, List.filterMap_nil]
  | x :: xs, h => by
    have ih := lcLoop_pure (w := w) (xs := xs) fun y hy => h y (List.mem_cons_of_mem _ hy)
    simp only [lcLoop, h x List.mem_cons_self, Out.bind_ok, same_self, if_true, ih, List.filterMap_cons]
    cases F x <;> rfl
theorem lcOut_pure {w : Option Nat} {g : D → Store → Out (Option D × Store)} {F : D → Option D} {τ : Store} {xs : List D} (h : ∀ x ∈ xs, g x τ = .ok (F x, τ)) : lcOut w g xs τ = .ok (.lst (xs.filterMap F), τ) := by
  simp only [lcOut, lcLoop_pure h]
theorem lcLoop_map {α : Type} {w : Option Nat} {g : D → Store → Out (Option D × Store)} {e : α → D} {F : α → D} {τ : Store} : ∀ {xs : List α}, (∀ x ∈ xs, g (e x) τ = .ok (some (F x), τ)) → lcLoop w g (xs.map e) τ = .ok (xs.map F, τ)
  | [], _ => by simp only [List.map_nil, lcLoop]
  | y :: ys, hy => by
    simp only [List.map_cons, lcLoop, hy y List.mem_cons_self, Out.bind_ok, same_self, if_true, lcLoop_map (xs := ys) fun x hx => hy x (List.mem_cons_of_mem _ hx)]
theorem lcOut_map {α : Type} {w : Option Nat} {g : D → Store → Out (Option D × Store)} {e : α → D} {F : α → D} {τ : Store} {xs : List α} (h : ∀ x ∈ xs, g (e x) τ = .ok (some (F x), τ)) : lcOut w g (xs.map e) τ = .ok (.lst (xs.map F), τ) := by
  simp only [lcOut, lcLoop_map h]
theorem lcLoop_filter {α : Type} {w : Option Nat} {g : D → Store → Out (Option D × Store)} {e : α → D} {F : α → D} {p : α → Bool} {τ : Store} : ∀ {xs : List α}, (∀ x ∈ xs, g (e x) τ = .ok (if p x = true then some (F x) else none, τ)) → lcLoop w g (xs.map e) τ = .ok ((xs.filter p).map F, τ)
  | [], _ => by simp only [List.map_nil, lcLoop, List.filter_nil]
  | x :: xs, h => by
    have ih := lcLoop_filter (w := w) (xs := xs) fun y hy => h y (List.mem_cons_of_mem _ hy)
    simp only [List.map_cons, lcLoop, h x List.mem_cons_self, Out.bind_ok, same_self, if_true, ih, List.filter_cons]
    cases p x <;> rfl
theorem lcOut_filter {α : Type} {w : Option Nat} {g : D → Store → Out (Option D × Store)} {e : α → D} {F : α → D} {p : α → Bool} {τ : Store} {xs : List α} (h : ∀ x ∈ xs, g (e x) τ = .ok (if p x = true then some (F x) else none, τ)) : lcOut w g (xs.map e) τ = .ok (.lst ((xs.filter p).map F), τ) := by
  simp only [lcOut, lcLoop_filter h]
theorem lcOut2_map {α β : Type} {w : Option Nat} {g : D → Store → Out (List D × Store)} {e : α → D} {F : α → List β} {e' : β → D} {τ : Store} {xs : List α} (h : ∀ x ∈ xs, g (e x) τ = .ok ((F x).map e', τ)) (hl : (xs.flatMap F).length ≤ 1000000) : lcOut2 w g (xs.map e) τ = .ok (.lst ((xs.flatMap F).map e'), τ) := by
  have key : ∀ ys : List α, (∀ x ∈ ys, g (e x) τ = .ok ((F x).map e', τ)) → lcLoop2 w g (ys.map e) τ = .ok ((ys.flatMap F).map e', τ) := by
    intro ys
    induction ys with
    | nil => intro _; simp only [List.map_nil, lcLoop2, List.flatMap_nil]
    | cons y ys ih =>
      intro hy
      simp only [List.map_cons, lcLoop2, hy y List.mem_cons_self, Out.bind_ok, same_self, if_true, ih fun x hx => hy x (List.mem_cons_of_mem _ hx), List.flatMap_cons, List.map_append]
  simp only [lcOut2, key xs h, List.length_map, if_pos hl]
theorem bls_map {α : Type} (f : α → Bool) : ∀ xs : List α, bls? (xs.map fun x => D.bl (f x)) = some (xs.map f)
  | [] => rfl
  | x :: xs => by simp only [List.map_cons, bls?, bls_map f xs, Option.map_some]
theorem all_map {α : Type} (f : α → Bool) (xs : List α) : bltF .all (.lst (xs.map fun x => D.bl (f x))) = some (.bl (xs.all f)) := by
  simp only [bltF, bls_map, Option.map_some, List.all_map]
  rfl
theorem ints_map {α : Type} (f : α → Int) : ∀ xs : List α, ints? (xs.map fun x => D.int (f x)) = some (xs.map f)
  | [] => rfl
  | x :: xs => by simp only [List.map_cons, ints?, ints_map f xs, Option.map_some]
theorem sum_map {α : Type} (f : α → Int) (xs : List α) : bltF .sum (.lst (xs.map fun x => D.int (f x))) = some (.int (xs.map f).sum) := by
  simp only [bltF, ints_map, Option.map_some]
theorem forLoop_nx {w : Option Nat} {f : D → M.Env → Store → Res} {x : D} {xs : List D} {ρ ρ' : M.Env} {τ τ' : Store} (h : f x ρ τ = .nx ρ' τ') (hs : same τ τ' w) : forLoop w f (x :: xs) ρ τ = forLoop w f xs ρ' τ' := by
  rw [forLoop, h]
  simp only [if_pos hs]
theorem forLoop_rt {w : Option Nat} {f : D → M.Env → Store → Res} {x : D} {xs : List D} {ρ : M.Env} {τ τ' : Store} {d : D} (h : f x ρ τ = .rt d τ') : forLoop w f (x :: xs) ρ τ = .rt d τ' := by
  rw [forLoop, h]
@[simp] theorem forLoop_nil {w : Option Nat} {f : D → M.Env → Store → Res} {ρ : M.Env} {τ : Store} : forLoop w f [] ρ τ = .nx ρ τ := by rw [forLoop]
end M
set_option Elab.async false
set_option linter.all false
set_option maxRecDepth 100000
set_option maxHeartbeats 4000000
namespace M
open PySem
variable {T : Nat → Option Def}
def isNum : D → Bool
  | .int _ => true
  | _ => false
theorem s_is_number (h21 : T 21 = some D_is_number) (k : Nat) (d : D) (τ : Store) (hd : flat d = true) : M.call T (k + 1) 21 [d] τ = .ok (.bl (isNum d), τ) := by
  rw [call_succ h21]
  refine run_val rfl ?_ rfl
  cases d <;> first
    | exact absurd hd Bool.false_ne_true
    | simp [D_is_number, startE, isTys, isTy, isNum]
def isLong (d : D) (n : Int) : Bool := match d with
  | .tup xs => decide ((xs.length : Int) = n)
  | _ => false
theorem s_is_long (h24 : T 24 = some D_is_long) (k : Nat) (d : D) (n : Int) (τ : Store) (hd : flat d = true) : M.call T (k + 1) 24 [d, .int n] τ = .ok (.bl (isLong d n), τ) := by
  rw [call_succ h24]
  refine run_val rfl ?_ rfl
  cases d <;> first
    | exact absurd hd Bool.false_ne_true
    | simp [D_is_long, startE, isTys, isTy, isLong]
def areNums : D → Bool
  | .tup xs => xs.all isNum
  | _ => false
def flats : D → Bool
  | .tup xs => xs.all flat
  | .lst xs => xs.all flat
  | d => flat d
theorem s_are_numbers (h21 : T 21 = some D_is_number) (h25 : T 25 = some D_are_numbers) (k : Nat) (d : D) (τ : Store) (hd : flats d = true) : M.call T (k + 2) 25 [d] τ = .ok (.bl (areNums d), τ) := by
  rw [call_succ h25]
  refine run_val rfl ?_ rfl
  cases d
  case tup xs =>
    have hd : xs.all flat = true := hd
    have key : ∀ (w : Option Nat), lcOut w (fun d τ1 => lcTurn (wipeE [some (.tup xs), none] [1]) (.n 1) (EC (M.call T (k + 1)) τ.length .none) (E (M.call T (k + 1)) τ.length (.call 21 (.cons (.var 1) .nil))) d τ1) xs τ = .ok (.lst (xs.map fun x => .bl (isNum x)), τ) := by
      intro w
      have := lcOut_map (w := w) (e := id) (F := fun x => D.bl (isNum x)) (τ := τ) (xs := xs) (g := fun d τ1 => lcTurn (wipeE [some (.tup xs), none] [1]) (.n 1) (EC (M.call T (k + 1)) τ.length .none) (E (M.call T (k + 1)) τ.length (.call 21 (.cons (.var 1) .nil))) d τ1) fun x hx => by
        have hf := List.all_eq_true.mp hd x hx
        simp [lcTurn, wipeE, s_is_number h21 k x τ hf]
      simpa using this
    simp [D_are_numbers, startE, isTys, isTy, areNums]
    rw [key]
    simp [all_map]
  case ref => exact absurd hd Bool.false_ne_true
  case fn => exact absurd hd Bool.false_ne_true
  all_goals simp [D_are_numbers, startE, isTys, isTy, areNums]
end M
set_option Elab.async false
set_option linter.all false
set_option maxRecDepth 100000
set_option maxHeartbeats 4000000
/-! Sequences, order. -/
namespace M
open PySem
def eI (l : List Int) : D := .tup (l.map .int)
def eP (P : List (List Int)) : D := .tup (P.map eI)
def lI (l : List Int) : D := .lst (l.map .int)
def lP (P : List (List Int)) : D := .lst (P.map lI)
def eA (p : Int × Int) : D := .tup [.int p.1, .int p.2]
def eAs (as : List (Int × Int)) : D := .tup (as.map eA)
@[simp] theorem nr_eI (l : List Int) : noRef (eI l) = true := by simp only [eI, nr_tup]; exact nrs_map fun x => rfl
@[simp] theorem nr_eP (P : List (List Int)) : noRef (eP P) = true := by simp only [eP, nr_tup]; exact nrs_map nr_eI
@[simp] theorem nr_lI (l : List Int) : noRef (lI l) = true := by simp only [lI, nr_lst]; exact nrs_map fun x => rfl
@[simp] theorem nr_lP (P : List (List Int)) : noRef (lP P) = true := by simp only [lP, nr_lst]; exact nrs_map nr_lI
@[simp] theorem nr_eA (p : Int × Int) : noRef (eA p) = true := rfl
@[simp] theorem nr_eAs (l : List (Int × Int)) : noRef (eAs l) = true := by simp only [eAs, nr_tup]; exact nrs_map nr_eA
theorem lcOut_mapD {w : Option Nat} {g : D → Store → Out (Option D × Store)} {F : D → D} {τ : Store} {xs : List D} (h : ∀ x ∈ xs, g x τ = .ok (some (F x), τ)) : lcOut w g xs τ = .ok (.lst (xs.map F), τ) := by
  have := lcOut_map (w := w) (g := g) (e := id) (F := F) (τ := τ) (xs := xs) h
  simpa using this
theorem cut_drop (xs : List D) (k : Nat) : cutD xs (some (k : Int)) none = xs.drop k := by
  unfold cutD HT.sIx
  have h : ¬ ((k : Int) < 0) := by omega
  simp only [if_neg h, Int.toNat_natCast]
  by_cases hk : k ≤ xs.length
  · rw [Nat.min_eq_left hk, List.take_of_length_le]
    rw [List.length_drop]; exact Nat.le_refl _
  · rw [Nat.min_eq_right (by omega), List.drop_of_length_le (Nat.le_refl _), List.drop_of_length_le (by omega)]
    simp
@[simp] theorem slice1_tup (xs : List D) : sliceF (some 1) none (.tup xs) = some (.tup xs.tail) := by
  show some (D.tup (cutD xs (some ((1 : Nat) : Int)) none)) = _
  rw [cut_drop, List.drop_one]
@[simp] theorem slice1_lst (xs : List D) : sliceF (some 1) none (.lst xs) = some (.lst xs.tail) := by
  show some (D.lst (cutD xs (some ((1 : Nat) : Int)) none)) = _
  rw [cut_drop, List.drop_one]
theorem zip_map2 {α β : Type} (e : α → D) (f : β → D) (xs : List α) (ys : List β) : zipD (xs.map e) (ys.map f) = (xs.zip ys).map fun p => .tup [e p.1, f p.2] := by
  unfold zipD
  rw [List.zip_map, List.map_map]
  rfl
theorem zipF_tup {α β : Type} (e : α → D) (f : β → D) (xs : List α) (ys : List β) (h : xs.length ≤ 1000000) : zipF (.tup (xs.map e)) (.tup (ys.map f)) = some ((xs.zip ys).map fun p => .tup [e p.1, f p.2]) := by
  simp only [zipF, List.length_map, if_pos h, zip_map2]
theorem zipF_lst {α β : Type} (e : α → D) (f : β → D) (xs : List α) (ys : List β) (h : xs.length ≤ 1000000) : zipF (.lst (xs.map e)) (.lst (ys.map f)) = some ((xs.zip ys).map fun p => .tup [e p.1, f p.2]) := by
  simp only [zipF, List.length_map, if_pos h, zip_map2]
/-! ### equality, order -/
/-- data of one kind that are told apart by equality -/
structure Eqv {α : Type} (n : Nat) (e : α → D) (p : α → PyData) : Prop where
  py : ∀ a, M.py (e a) = some (p a)
  cl : ∀ a, (p a).canLay0 = true
  dp : ∀ a, (p a).depth ≤ n
  eq : ∀ a b, PyData.eqv (p a) (p b) = true ↔ a = b
theorem Eqv.sh {α : Type} {n : Nat} {e : α → D} {p : α → PyData} (h : Eqv n e p) (hn : n ≤ 64) (a : α) : SeqAt.shaped (p a) = true := by
  unfold SeqAt.shaped
  rw [h.cl, Bool.true_and, decide_eq_true_eq]
  exact Nat.le_trans (h.dp a) hn
theorem Eqv.peq {α : Type} {n : Nat} {e : α → D} {p : α → PyData} (h : Eqv n e p) (hn : n ≤ 64) [DecidableEq α] (a b : α) : peq (e a) (e b) = some (decide (a = b)) := by
  unfold M.peq
  rw [h.py, h.py, Option.bind_some, Option.bind_some, if_pos ⟨h.sh hn a, h.sh hn b⟩]
  congr 1
  rw [Bool.eq_iff_iff, h.eq, decide_eq_true_eq]
theorem eqvAll_map {α : Type} {p : α → PyData} (h : ∀ a b, PyData.eqv (p a) (p b) = true ↔ a = b) : ∀ xs ys : List α, PyData.eqvAll (xs.map p) (ys.map p) = true ↔ xs = ys
  | [], [] => by simp [PyData.eqvAll]
  | [], y :: ys => by simp [PyData.eqvAll]
  | x :: xs, [] => by simp [PyData.eqvAll]
  | x :: xs, y :: ys => by simp [PyData.eqvAll, h, eqvAll_map h xs ys]
theorem pyL_map {α : Type} {e : α → D} {p : α → PyData} (h : ∀ a, M.py (e a) = some (p a)) : ∀ xs : List α, pyL (xs.map e) = some (xs.map p)
  | [] => by simp [pyL]
  | x :: xs => by simp [pyL, h, pyL_map h xs]
theorem clAll {α : Type} {p : α → PyData} (h : ∀ a, (p a).canLay0 = true) : ∀ xs : List α, PyData.canLayAll0 (xs.map p) = true
  | [] => by simp [PyData.canLayAll0]
  | x :: xs => by simp [PyData.canLayAll0, h, clAll h xs]
theorem dpAll {α : Type} {n : Nat} {p : α → PyData} (h : ∀ a, (p a).depth ≤ n) : ∀ xs : List α, PyData.depthAll (xs.map p) ≤ n
  | [] => by simp [PyData.depthAll]
  | x :: xs => by simp only [List.map_cons, PyData.depthAll]; exact Nat.max_le.mpr ⟨h x, dpAll h xs⟩
def pI (i : Int) : PyData := .int i
theorem eqv_int : Eqv 0 D.int pI where
  py := fun a => by simp only [M.py]; rfl
  cl := fun a => by simp [pI, PyData.canLay0]
  dp := fun a => by simp [pI, PyData.depth]
  eq := fun a b => by simp [pI, PyData.eqv]
def tupE {α : Type} (e : α → D) (xs : List α) : D := .tup (xs.map e)
def tupP {α : Type} (p : α → PyData) (xs : List α) : PyData := .tuple (xs.map p)
def lstE {α : Type} (e : α → D) (xs : List α) : D := .lst (xs.map e)
def lstP {α : Type} (p : α → PyData) (xs : List α) : PyData := .list (xs.map p)
theorem Eqv.tup {α : Type} {n : Nat} {e : α → D} {p : α → PyData} (h : Eqv n e p) : Eqv (n + 1) (tupE e) (tupP p) where
  py := fun a => by simp only [tupE, M.py, pyL_map h.py]; rfl
  cl := fun a => by simp [tupP, PyData.canLay0, clAll h.cl]
  dp := fun a => by simp only [tupP, PyData.depth]; have := dpAll h.dp a; omega
  eq := fun a b => by simp only [tupP, PyData.eqv, eqvAll_map h.eq]
theorem Eqv.lst {α : Type} {n : Nat} {e : α → D} {p : α → PyData} (h : Eqv n e p) : Eqv (n + 1) (lstE e) (lstP p) where
  py := fun a => by simp only [lstE, M.py, pyL_map h.py]; rfl
  cl := fun a => by simp [lstP, PyData.canLay0, clAll h.cl]
  dp := fun a => by simp only [lstP, PyData.depth]; have := dpAll h.dp a; omega
  eq := fun a b => by simp only [lstP, PyData.eqv, eqvAll_map h.eq]
def prE {α β : Type} (e : α → D) (f : β → D) (x : α × β) : D := .tup [e x.1, f x.2]
def prP {α β : Type} (p : α → PyData) (q : β → PyData) (x : α × β) : PyData := .tuple [p x.1, q x.2]
theorem Eqv.pair {α β : Type} {n m : Nat} {e : α → D} {p : α → PyData} {f : β → D} {q : β → PyData} (h : Eqv n e p) (k : Eqv m f q) : Eqv (max n m + 1) (prE e f) (prP p q) where
  py := fun a => by simp only [prE, M.py, pyL, h.py, k.py]; rfl
  cl := fun a => by simp [prP, PyData.canLay0, PyData.canLayAll0, h.cl, k.cl]
  dp := fun a => by simp only [prP, PyData.depth, PyData.depthAll]; have h1 := h.dp a.1; have h2 := k.dp a.2; omega
  eq := fun a b => by simp only [prP, PyData.eqv, PyData.eqvAll, Bool.and_true, Bool.and_eq_true, h.eq, k.eq]; exact ⟨fun x => Prod.ext x.1 x.2, fun x => by rw [x]; exact ⟨rfl, rfl⟩⟩
/-- data of one kind in a strict order -/
structure Ordd {α : Type} (n : Nat) (e : α → D) (p : α → PyData) (lt : α → α → Bool) : Prop extends Eqv n e p where
  al : ∀ a b, PySem.W.alike (p a) (p b) = true
  nn : ∀ a, isPN (p a) = false
  lt : ∀ a b, PySem.W.dataLt (p a) (p b) = lt a b
  back : ∀ a, dOf (p a) = e a
theorem ord_int : Ordd 0 D.int pI (fun a b => decide (a < b)) where
  toEqv := eqv_int
  al := fun a b => by simp [pI, PySem.W.alike]
  nn := fun a => rfl
  lt := fun a b => by simp only [pI, PySem.W.dataLt_int]
  back := fun a => rfl
def ltPr {α β : Type} [DecidableEq α] (lt : α → α → Bool) (lt' : β → β → Bool) (x y : α × β) : Bool := if x.1 = y.1 then lt' x.2 y.2 else lt x.1 y.1
def ltL {α : Type} [DecidableEq α] (lt : α → α → Bool) : List α → List α → Bool
  | _, [] => false
  | [], _ :: _ => true
  | x :: xs, y :: ys => if x = y then ltL lt xs ys else lt x y
theorem backL {α : Type} {e : α → D} {p : α → PyData} (h : ∀ a, dOf (p a) = e a) : ∀ xs : List α, dOf.dOfL (xs.map p) = xs.map e
  | [] => by simp [dOf.dOfL]
  | x :: xs => by simp [dOf.dOfL, h, backL h xs]
theorem alAll {α : Type} {p : α → PyData} (h : ∀ a b, PySem.W.alike (p a) (p b) = true) : ∀ xs ys : List α, PySem.W.alikeAll (xs.map p) (ys.map p) = true
  | [], _ => by simp [PySem.W.alikeAll]
  | x :: xs, [] => by simp [PySem.W.alikeAll]
  | x :: xs, y :: ys => by simp [PySem.W.alikeAll, h, alAll h xs ys]
theorem lex_map {α : Type} [DecidableEq α] {n : Nat} {e : α → D} {p : α → PyData} {lt : α → α → Bool} (h : Ordd n e p lt) : ∀ xs ys : List α, PyProof.Rows.lexLt PyProof.Rows.itemOrd (PySem.W.keyToksAll (xs.map p)) (PySem.W.keyToksAll (ys.map p)) = ltL lt xs ys
  | [], [] => by
    have i0 : PyProof.Rows.itemLt (Sum.inl 0) (Sum.inl 0) = false := by decide
    simp [PySem.W.keyToksAll, PyProof.Rows.lexLt, ltL, i0]
  | [], y :: ys => by
    have i0 : PyProof.Rows.itemLt (Sum.inl 0) (Sum.inl 1) = true := by decide
    simp [PySem.W.keyToksAll, PyProof.Rows.lexLt, ltL, i0]
  | x :: xs, [] => by
    have i0 : PyProof.Rows.itemLt (Sum.inl 0) (Sum.inl 1) = true := by decide
    have i1 : PyProof.Rows.itemLt (Sum.inl 1) (Sum.inl 0) = false := by decide
    simp [PySem.W.keyToksAll, PyProof.Rows.lexLt, ltL, i0, i1]
  | x :: xs, y :: ys => by
    rw [List.map_cons, List.map_cons, PySem.W.dataLt_cons (h.al x y), lex_map h xs ys, h.lt]
    show _ = if x = y then ltL lt xs ys else lt x y
    by_cases e : x = y
    · rw [if_pos ((h.eq x y).mpr e), if_pos e]
    · rw [if_neg (fun z => e ((h.eq x y).mp z)), if_neg e]
theorem Ordd.tup {α : Type} [DecidableEq α] {n : Nat} {e : α → D} {p : α → PyData} {lt : α → α → Bool} (h : Ordd n e p lt) : Ordd (n + 1) (tupE e) (tupP p) (ltL lt) where
  toEqv := h.toEqv.tup
  al := fun a b => by simp only [tupP, PySem.W.alike, alAll h.al]
  nn := fun a => rfl
  lt := fun a b => by simp only [tupP, PySem.W.dataLt_tuple, lex_map h]
  back := fun a => by simp only [tupP, dOf, backL h.back]; rfl
theorem Ordd.pair {α β : Type} [DecidableEq α] {n m : Nat} {e : α → D} {p : α → PyData} {lt : α → α → Bool} {f : β → D} {q : β → PyData} {lt' : β → β → Bool} (h : Ordd n e p lt) (k : Ordd m f q lt') (ir : ∀ b, lt' b b = false) : Ordd (max n m + 1) (prE e f) (prP p q) (ltPr lt lt') where
  toEqv := h.toEqv.pair k.toEqv
  al := fun a b => by simp [prP, PySem.W.alike, PySem.W.alikeAll, h.al, k.al]
  nn := fun a => rfl
  lt := fun a b => by
    simp only [prP]
    rw [PySem.W.dataLt_pair (h.al _ _) (k.al _ _), h.lt, k.lt]
    unfold ltPr
    by_cases e : a.1 = b.1
    · rw [if_pos ((h.eq _ _).mpr e), if_pos e]
      by_cases e2 : a.2 = b.2
      · rw [if_pos ((k.eq _ _).mpr e2), e2, ir]
      · rw [if_neg (fun z => e2 ((k.eq _ _).mp z))]
    · rw [if_neg (fun z => e ((h.eq _ _).mp z)), if_neg e]
  back := fun a => by simp only [prP, dOf, dOf.dOfL, h.back, k.back]; rfl
theorem okAll_map {α : Type} {n : Nat} {e : α → D} {p : α → PyData} {lt : α → α → Bool} (h : Ordd n e p lt) (hn : n ≤ 60) (xs : List α) : okAll (xs.map p) = true := by
  unfold okAll
  rw [Bool.and_eq_true, Bool.and_eq_true, decide_eq_true_eq, List.all_eq_true, List.all_eq_true]
  refine ⟨⟨fun x hx => List.all_eq_true.mpr fun y hy => ?_, fun x hx => ?_⟩, Nat.le_trans (dpAll h.dp xs) hn⟩
  · obtain ⟨a, _, rfl⟩ := List.mem_map.mp hx
    obtain ⟨b, _, rfl⟩ := List.mem_map.mp hy
    exact h.al a b
  · obtain ⟨a, _, rfl⟩ := List.mem_map.mp hx
    rw [h.nn]; rfl
def minL {α : Type} (lt : α → α → Bool) (x : α) (xs : List α) : α := xs.foldl (fun a y => if lt y a = true then y else a) x
def maxL {α : Type} (lt : α → α → Bool) (x : α) (xs : List α) : α := xs.foldl (fun a y => if lt a y = true then y else a) x
theorem minD_map {α : Type} {n : Nat} {e : α → D} {p : α → PyData} {lt : α → α → Bool} (h : Ordd n e p lt) : ∀ (xs : List α) (x : α), PySem.W.minD (p x) (xs.map p) = p (minL lt x xs)
  | [], x => rfl
  | y :: ys, x => by
    show PySem.W.minD (if PySem.W.dataLt (p y) (p x) = true then p y else p x) (ys.map p) = p (minL lt (if lt y x = true then y else x) ys)
    rw [h.lt, ← minD_map h ys]
    by_cases z : lt y x = true
    · rw [if_pos z, if_pos z]
    · rw [if_neg z, if_neg z]
theorem maxD_map {α : Type} {n : Nat} {e : α → D} {p : α → PyData} {lt : α → α → Bool} (h : Ordd n e p lt) : ∀ (xs : List α) (x : α), PySem.W.maxD (p x) (xs.map p) = p (maxL lt x xs)
  | [], x => rfl
  | y :: ys, x => by
    show PySem.W.maxD (if PySem.W.dataLt (p x) (p y) = true then p y else p x) (ys.map p) = p (maxL lt (if lt x y = true then y else x) ys)
    rw [h.lt, ← maxD_map h ys]
    by_cases z : lt x y = true
    · rw [if_pos z, if_pos z]
    · rw [if_neg z, if_neg z]
theorem min_map {α : Type} {n : Nat} {e : α → D} {p : α → PyData} {lt : α → α → Bool} (h : Ordd n e p lt) (hn : n ≤ 60) (nl : ∀ a, notLst (e a) = some (e a)) (x : α) (xs : List α) : bltF .min (.lst ((x :: xs).map e)) = some (e (minL lt x xs)) := by
  have e1 : pyL ((x :: xs).map e) = some ((x :: xs).map p) := pyL_map h.py _
  simp only [bltF, minF]
  rw [e1]
  simp only [Option.bind_some, List.map_cons]
  have := okAll_map h hn (x :: xs)
  rw [List.map_cons] at this
  rw [if_pos this, minD_map h, h.back, nl]
theorem max_map {α : Type} {n : Nat} {e : α → D} {p : α → PyData} {lt : α → α → Bool} (h : Ordd n e p lt) (hn : n ≤ 60) (nl : ∀ a, notLst (e a) = some (e a)) (x : α) (xs : List α) : bltF .max (.lst ((x :: xs).map e)) = some (e (maxL lt x xs)) := by
  have e1 : pyL ((x :: xs).map e) = some ((x :: xs).map p) := pyL_map h.py _
  simp only [bltF, minF]
  rw [e1]
  simp only [Option.bind_some, List.map_cons]
  have := okAll_map h hn (x :: xs)
  rw [List.map_cons] at this
  rw [if_pos this, maxD_map h, h.back, nl]
theorem sort_map {α : Type} {n : Nat} {e : α → D} {p : α → PyData} {lt : α → α → Bool} (h : Ordd n e p lt) (hn : n ≤ 60) {xs : List α} (hs : sortable (xs.map p) = true) : sortF false (xs.map e) = some (.lst ((xs.mergeSort fun a b => !lt b a).map e)) := by
  unfold sortF
  rw [pyL_map h.py, Option.bind_some, if_pos ⟨okAll_map h hn xs, hs⟩]
  have e1 : (xs.mergeSort fun a b => !lt b a).map p = (xs.map p).mergeSort (PySem.W.dataLe false id) := List.map_mergeSort fun a _ b _ => by
    rw [PySem.W.dataLe_eq]
    show (!lt b a) = !PySem.W.dataLt (p b) (p a)
    rw [h.lt]
  rw [← e1, List.map_map]
  congr 2
  exact List.map_congr_left fun a _ => h.back a
theorem sortR_map {α : Type} {n : Nat} {e : α → D} {p : α → PyData} {lt : α → α → Bool} (h : Ordd n e p lt) (hn : n ≤ 60) {xs : List α} (hs : sortable (xs.map p) = true) : sortF true (xs.map e) = some (.lst ((xs.mergeSort fun a b => !lt a b).map e)) := by
  unfold sortF
  rw [pyL_map h.py, Option.bind_some, if_pos ⟨okAll_map h hn xs, hs⟩]
  have e1 : (xs.mergeSort fun a b => !lt a b).map p = (xs.map p).mergeSort (PySem.W.dataLe true id) := List.map_mergeSort fun a _ b _ => by
    rw [PySem.W.dataLe_eq]
    show (!lt a b) = !PySem.W.dataLt (p a) (p b)
    rw [h.lt]
  rw [← e1, List.map_map]
  congr 2
  exact List.map_congr_left fun a _ => h.back a
theorem sortable_int (xs : List Int) : sortable (xs.map pI) = true := by
  unfold sortable
  rw [Bool.or_eq_true]
  right
  rw [List.all_eq_true]
  intro x hx
  obtain ⟨i, _, rfl⟩ := List.mem_map.mp hx
  rfl
theorem sortable_pr {α β : Type} {p : α → PyData} {q : β → PyData} (xs : List (α × β)) : sortable (xs.map (prP p q)) = true := by
  unfold sortable
  rw [Bool.or_eq_true]
  left
  rw [List.all_eq_true]
  intro x hx
  obtain ⟨i, _, rfl⟩ := List.mem_map.mp hx
  rfl
/-- a strict linear order -/
structure LOrd {α : Type} (lt : α → α → Bool) : Prop where
  ir : ∀ a, lt a a = false
  tr : ∀ a b c, lt a b = true → lt b c = true → lt a c = true
  tri : ∀ a b, lt a b = false → lt b a = false → a = b
theorem lord_int : LOrd (fun a b : Int => decide (a < b)) := ⟨fun a => by simp, fun a b c h1 h2 => by simp only [decide_eq_true_eq] at *; omega, fun a b h1 h2 => by simp only [decide_eq_false_iff_not] at *; omega⟩
theorem LOrd.pr {α β : Type} [DecidableEq α] {lt : α → α → Bool} {lt' : β → β → Bool} (h : LOrd lt) (k : LOrd lt') : LOrd (ltPr lt lt') where
  ir := fun a => by unfold ltPr; rw [if_pos rfl, k.ir]
  tr := fun a b c h1 h2 => by
    unfold ltPr at *
    by_cases e1 : a.1 = b.1
    · by_cases e2 : b.1 = c.1
      · rw [if_pos e1] at h1; rw [if_pos e2] at h2; rw [if_pos (e1.trans e2)]; exact k.tr _ _ _ h1 h2
      · rw [if_neg e2] at h2; rw [if_neg (by rw [e1]; exact e2), e1]; exact h2
    · by_cases e2 : b.1 = c.1
      · rw [if_neg e1] at h1; rw [if_neg (by rw [← e2]; exact e1), ← e2]; exact h1
      · rw [if_neg e1] at h1; rw [if_neg e2] at h2
        have := h.tr _ _ _ h1 h2
        rw [if_neg (fun z => by rw [z, h.ir] at this; cases this)]; exact this
  tri := fun a b h1 h2 => by
    unfold ltPr at *
    by_cases e : a.1 = b.1
    · rw [if_pos e] at h1; rw [if_pos e.symm] at h2; exact Prod.ext e (k.tri _ _ h1 h2)
    · rw [if_neg e] at h1; rw [if_neg (fun z => e z.symm)] at h2; exact absurd (h.tri _ _ h1 h2) e
theorem ltL_ir {α : Type} [DecidableEq α] {lt : α → α → Bool} : ∀ a : List α, ltL lt a a = false
  | [] => by simp [ltL]
  | x :: xs => by simp [ltL, ltL_ir xs]
theorem ltL_tr {α : Type} [DecidableEq α] {lt : α → α → Bool} (h : LOrd lt) : ∀ a b c : List α, ltL lt a b = true → ltL lt b c = true → ltL lt a c = true
  | _, [], _, h1, _ => by simp [ltL] at h1
  | _, _ :: _, [], _, h2 => by simp [ltL] at h2
  | [], _ :: _, _ :: _, _, _ => by simp [ltL]
  | x :: xs, y :: ys, z :: zs, h1, h2 => by
    simp only [ltL] at *
    by_cases e1 : x = y
    · by_cases e2 : y = z
      · rw [if_pos e1] at h1; rw [if_pos e2] at h2; rw [if_pos (e1.trans e2)]; exact ltL_tr h xs ys zs h1 h2
      · rw [if_neg e2] at h2; rw [if_neg (by rw [e1]; exact e2), e1]; exact h2
    · by_cases e2 : y = z
      · rw [if_neg e1] at h1; rw [if_neg (by rw [← e2]; exact e1), ← e2]; exact h1
      · rw [if_neg e1] at h1; rw [if_neg e2] at h2
        have := h.tr _ _ _ h1 h2
        rw [if_neg (fun w => by rw [w, h.ir] at this; cases this)]; exact this
theorem ltL_tri {α : Type} [DecidableEq α] {lt : α → α → Bool} (h : LOrd lt) : ∀ a b : List α, ltL lt a b = false → ltL lt b a = false → a = b
  | [], [], _, _ => rfl
  | [], _ :: _, h1, _ => by simp [ltL] at h1
  | _ :: _, [], _, h2 => by simp [ltL] at h2
  | x :: xs, y :: ys, h1, h2 => by
    simp only [ltL] at *
    by_cases e : x = y
    · rw [if_pos e] at h1; rw [if_pos e.symm] at h2; rw [e, ltL_tri h xs ys h1 h2]
    · rw [if_neg e] at h1; rw [if_neg (fun z => e z.symm)] at h2; exact absurd (h.tri _ _ h1 h2) e
theorem LOrd.l {α : Type} [DecidableEq α] {lt : α → α → Bool} (h : LOrd lt) : LOrd (ltL lt) := ⟨ltL_ir, ltL_tr h, ltL_tri h⟩
theorem minL_mem {α : Type} {lt : α → α → Bool} : ∀ (xs : List α) (x : α), minL lt x xs ∈ x :: xs
  | [], x => List.mem_cons_self
  | y :: ys, x => by
    show minL lt (if lt y x = true then y else x) ys ∈ _
    have := minL_mem (lt := lt) ys (if lt y x = true then y else x)
    rcases List.mem_cons.mp this with h | h
    · rw [h]; split
      · exact List.mem_cons_of_mem _ List.mem_cons_self
      · exact List.mem_cons_self
    · exact List.mem_cons_of_mem _ (List.mem_cons_of_mem _ h)
theorem minL_le {α : Type} {lt : α → α → Bool} (h : LOrd lt) : ∀ (xs : List α) (x y : α), y ∈ x :: xs → lt y (minL lt x xs) = false
  | [], x, y, hy => by
    rw [List.mem_singleton] at hy
    subst hy
    exact h.ir y
  | z :: zs, x, y, hy => by
    show lt y (minL lt (if lt z x = true then z else x) zs) = false
    have ih := minL_le h zs (if lt z x = true then z else x)
    by_cases e : lt z x = true
    · rw [if_pos e] at ih ⊢
      rcases List.mem_cons.mp hy with rfl | hy
      · cases q : lt y (minL lt z zs) with
        | false => rfl
        | true => have := h.tr _ _ _ e q; rw [ih z List.mem_cons_self] at this; cases this
      · exact ih y hy
    · rw [if_neg e] at ih ⊢
      rcases List.mem_cons.mp hy with rfl | hy
      · exact ih y List.mem_cons_self
      · rcases List.mem_cons.mp hy with rfl | hy
        · cases q : lt y (minL lt x zs) with
          | false => rfl
          | true =>
            have i1 := ih x List.mem_cons_self
            by_cases e2 : lt x y = true
            · have := h.tr _ _ _ e2 q; rw [i1] at this; cases this
            · have := h.tri x y (by simpa using e2) (by simpa using e)
              subst this
              rw [q] at i1; cases i1
        · exact ih y (List.mem_cons_of_mem _ hy)
end M
set_option Elab.async false
set_option linter.all false
set_option maxRecDepth 100000
set_option maxHeartbeats 4000000
namespace M
open PySem
variable {T : Nat → Option Def}
/-! ### plain, partings -/
def ascB (l : List Int) : Bool := (l.zip l.tail).all fun p => decide (p.1 < p.2)
theorem s_ascends (h26 : T 26 = some D_ascends) (k : Nat) (l : List Int) (τ : Store) (hl : l.length ≤ 1000000) : M.call T (k + 1) 26 [eI l] τ = .ok (.bl (ascB l), τ) := by
  rw [call_succ h26]
  refine run_val rfl ?_ rfl
  have hz := zipF_tup D.int D.int l l.tail hl
  simp [D_ascends, startE, eI, ← List.map_tail, hz]
  rw [lcOut_map (F := fun p : Int × Int => D.bl (decide (p.1 < p.2)))]
  · simp [all_map, ascB]
  · intro x hx
    simp [lcTurn, wipeE, setTgt]
theorem tupled_leaf (h27 : T 27 = some D_tupled) (k : Nat) (i : Int) (τ : Store) : M.call T (k + 1) 27 [.int i] τ = .ok (.int i, τ) := by
  rw [call_succ h27]
  refine run_val rfl ?_ rfl
  simp [D_tupled, startE, isTys, isTy]
theorem tupled_seq (h27 : T 27 = some D_tupled) (k : Nat) {α : Type} (e F : α → D) (tp : Bool) (xs : List α) (τ : Store) (h : ∀ x ∈ xs, M.call T k 27 [e x] τ = .ok (F x, τ)) (hr : ∀ x, noRef (F x) = true) : M.call T (k + 1) 27 [if tp = true then .tup (xs.map e) else .lst (xs.map e)] τ = .ok (.tup (xs.map F), τ) := by
  rw [call_succ h27]
  refine run_val rfl ?_ (by simp only [nr_tup]; exact nrs_map hr)
  cases tp
  all_goals
    simp [D_tupled, startE, isTys, isTy]
    rw [lcOut_map (F := F)]
    · simp
    · intro x hx
      simp [lcTurn, wipeE, setTgt, h x hx]
theorem tupled_I (h27 : T 27 = some D_tupled) (k : Nat) (tp : Bool) (l : List Int) (τ : Store) : M.call T (k + 2) 27 [if tp = true then eI l else lI l] τ = .ok (eI l, τ) :=
  tupled_seq h27 (k + 1) D.int D.int tp l τ (fun i _ => tupled_leaf h27 k i τ) (fun _ => rfl)
theorem tupled_P (h27 : T 27 = some D_tupled) (k : Nat) (P : List (List Int)) (τ : Store) : M.call T (k + 3) 27 [eP P] τ = .ok (eP P, τ) :=
  tupled_seq h27 (k + 2) eI eI true P τ (fun i _ => tupled_I h27 k true i τ) nr_eI
theorem tupled_lP (h27 : T 27 = some D_tupled) (k : Nat) (P : List (List Int)) (τ : Store) : M.call T (k + 3) 27 [lP P] τ = .ok (eP P, τ) :=
  tupled_seq h27 (k + 2) lI eI false P τ (fun i _ => tupled_I h27 k false i τ) nr_eI
/-- all rows behind one another -/
def bJoin : List MStmt := [
    .asg (.n 1) (.alloc (.lst .nil)),
    .loop (.n 2) (.over (.var 0)) [.expr (.mut .extend (.var 1) (.var 2))],
    .retv 1]
theorem take_app (τ : Store) (c : Cell) : (τ ++ [c]).take τ.length = τ := by simp
theorem get_app (τ : Store) (c : Cell) : (τ ++ [c])[τ.length]? = some c := by simp
theorem set_app (τ : Store) (c c' : Cell) : (τ ++ [c]).set τ.length c' = τ ++ [c'] := by simp
theorem fin_cell {τ : Store} {xs : List D} (h : noRefs xs = true) : fin τ.length (τ ++ [some xs]) (.ref τ.length) = some (.lst xs) := by
  simp [fin, h]
theorem run_cell {cl : Calls} {df : Def} {ds : List D} {τ : Store} {xs : List D} (hl : ds.length = df.np) (h : SL cl τ.length df.body (startE df.N ds) τ = .rt (.ref τ.length) (τ ++ [some xs])) (hf : noRefs xs = true) : runDef cl df ds τ = .ok (.lst xs, τ) := by
  unfold runDef
  rw [if_pos hl, h]
  simp only [fin_cell hf, take_app]
theorem join_loop (cl : Calls) (τ : Store) (r0 : D) : ∀ (rows : List (List D)) (acc : List D) (v : Option D), (acc ++ rows.flatten).length ≤ 1000000 → noRefs rows.flatten = true →
    ∃ v', forLoop none (loopF cl τ.length (.n 2) [.expr (.mut .extend (.var 1) (.var 2))]) (rows.map D.lst) [some r0, some (.ref τ.length), v] (τ ++ [some acc]) = .nx [some r0, some (.ref τ.length), v'] (τ ++ [some (acc ++ rows.flatten)])
  | [], acc, v, _, _ => ⟨v, by simp⟩
  | r :: rows, acc, v, hl, hn => by
    have hl2 : (acc ++ r).length ≤ 1000000 := by simp at hl ⊢; omega
    have hr : ∀ x ∈ r, mayPut τ.length τ.length x = true := fun x _ => by simp [mayPut]
    have hf : rows.flatten.all noRef = true := by
      rw [List.all_eq_true]
      intro x hx
      exact nrs_iff.mp hn x (by rw [List.flatten_cons]; exact List.mem_append_right _ hx)
    obtain ⟨v', ih⟩ := join_loop cl τ r0 rows (acc ++ r) (some (.lst r)) (by rw [List.append_assoc]; simpa using hl) (nrs_iff.mpr (List.all_eq_true.mp hf))
    refine ⟨v', ?_⟩
    have hm : mutF τ.length τ.length acc (.lst r) .extend = some (acc ++ r, .non) := by
      simp only [mutF]
      rw [if_pos ⟨by simpa using hl2, List.all_eq_true.mpr hr⟩]
    have hst : loopF cl τ.length (.n 2) [.expr (.mut .extend (.var 1) (.var 2))] (.lst r) [some r0, some (.ref τ.length), v] (τ ++ [some acc]) = .nx [some r0, some (.ref τ.length), some (.lst r)] (τ ++ [some (acc ++ r)]) := by
      simp [loopF_n, cellOf, cellGet, mutArg, hm]
    rw [List.map_cons, forLoop_nx (w := none) hst trivial, ih, List.flatten_cons, List.append_assoc]
theorem s_join {df : Def} (hb : df.body = bJoin) (hnp : df.np = 1) (hN : df.N.length = 3) (cl : Calls) (rows : List (List D)) (τ : Store) (hl : rows.flatten.length ≤ 1000000) (hn : noRefs rows.flatten = true) : runDef cl df [.lst (rows.map D.lst)] τ = .ok (.lst rows.flatten, τ) := by
  refine run_cell (by rw [hnp]; rfl) ?_ hn
  obtain ⟨v', e⟩ := join_loop cl τ (.lst (rows.map D.lst)) rows [] none (by simpa using hl) hn
  rw [hb]
  have hs : startE df.N [.lst (rows.map D.lst)] = [some (.lst (rows.map D.lst)), none, none] := by
    unfold startE; rw [hN]; rfl
  rw [hs]
  simp [bJoin]
  simp at e
  rw [e]
  simp
theorem s_joined (h28 : T 28 = some D_joined) (k : Nat) (rows : List (List D)) (τ : Store) (hl : rows.flatten.length ≤ 1000000) (hn : noRefs rows.flatten = true) : M.call T (k + 1) 28 [.lst (rows.map D.lst)] τ = .ok (.lst rows.flatten, τ) := by
  rw [call_succ h28]
  exact s_join rfl rfl rfl _ rows τ hl hn
theorem s_flat (h78 : T 78 = some D__law_flat) (k : Nat) (rows : List (List D)) (τ : Store) (hl : rows.flatten.length ≤ 1000000) (hn : noRefs rows.flatten = true) : M.call T (k + 1) 78 [.lst (rows.map D.lst)] τ = .ok (.lst rows.flatten, τ) := by
  rw [call_succ h78]
  exact s_join rfl rfl rfl _ rows τ hl hn
end M
set_option Elab.async false
set_option linter.all false
set_option maxRecDepth 100000
set_option maxHeartbeats 4000000
namespace M
open PySem
variable {T : Nat → Option Def}
@[simp] theorem idx0_tup (x : D) (r : List D) : idxF (.tup (x :: r)) (.int 0) = some x := by simp [idxF, L2.atI, L2.ixN]
@[simp] theorem idx1_tup (x y : D) (r : List D) : idxF (.tup (x :: y :: r)) (.int 1) = some y := by
  have h : (1 : Int) < (r.length : Int) + 1 + 1 := by omega
  simp [idxF, L2.atI, L2.ixN, h]
@[simp] theorem idx0_lst (x : D) (r : List D) : idxF (.lst (x :: r)) (.int 0) = some x := by simp [idxF, L2.atI, L2.ixN]
def hd0 : List Int → Int
  | [] => 0
  | x :: _ => x
/-- good partings of 1 .. m -/
structure Good (m : Nat) (P : List (List Int)) : Prop where
  ne : ∀ l ∈ P, l ≠ []
  asc : ∀ l ∈ P, l.Pairwise (· < ·)
  perm : P.flatten.Perm ((List.range m).map fun i : Nat => 1 + (i : Int))
  heads : (P.map hd0).Pairwise (· < ·)
theorem ascB_of {l : List Int} (h : l.Pairwise (· < ·)) : ascB l = true := by
  induction l with
  | nil => rfl
  | cons x l ih =>
    rw [List.pairwise_cons] at h
    cases l with
    | nil => rfl
    | cons y r =>
      have := ih h.2
      unfold ascB at this ⊢
      simp only [List.tail_cons, List.zip_cons_cons, List.all_cons, Bool.and_eq_true, decide_eq_true_eq] at this ⊢
      exact ⟨h.1 y List.mem_cons_self, this⟩
theorem Good.len {m : Nat} {P : List (List Int)} (g : Good m P) : P.flatten.length = m := by rw [g.perm.length_eq]; simp
theorem len_leS {l : List Int} {P : List (List Int)} (h : l ∈ P) : l.length ≤ P.flatten.length := by
  induction P with
  | nil => cases h
  | cons a P ih =>
    rw [List.flatten_cons, List.length_append]
    rcases List.mem_cons.mp h with rfl | h
    · omega
    · have := ih h; omega
theorem Good.cnt {m : Nat} {P : List (List Int)} (g : Good m P) : P.length ≤ m := by
  rw [← g.len]
  have := g.ne
  clear g
  induction P with
  | nil => simp
  | cons a P ih =>
    have h1 := this a List.mem_cons_self
    have h2 := ih fun l hl => this l (List.mem_cons_of_mem _ hl)
    rw [List.flatten_cons, List.length_append, List.length_cons]
    cases a with
    | nil => exact absurd rfl h1
    | cons x a => rw [List.length_cons]; omega
theorem sum_len (P : List (List Int)) : (P.map fun l => (l.length : Int)).sum = (P.flatten.length : Int) := by
  induction P with
  | nil => rfl
  | cons a P ih => simp [ih]
theorem range_pw (m : Nat) : ((List.range m).map fun i : Nat => 1 + (i : Int)).Pairwise (· ≤ ·) := by
  rw [List.pairwise_map]
  exact List.pairwise_lt_range.imp fun h => by omega
theorem sort_eq {l r : List Int} (h : l.Perm r) (hr : r.Pairwise (· ≤ ·)) : l.mergeSort (fun a b => decide (a ≤ b)) = r := by
  refine List.Perm.eq_of_pairwise (le := (· ≤ ·)) (fun a b _ _ h1 h2 => by omega) ?_ hr ((List.mergeSort_perm _ _).trans h)
  have := List.pairwise_mergeSort (le := fun a b : Int => decide (a ≤ b)) (fun a b c h1 h2 => by simp only [decide_eq_true_eq] at *; omega) (fun a b => by simp only [Bool.or_eq_true, decide_eq_true_eq]; omega) l
  exact this.imp fun h => by simpa using h
theorem range_eq (m : Nat) : intRange 1 ((m : Int) + 1) = ((List.range m).map fun i : Nat => 1 + (i : Int)).map D.int := by
  unfold intRange
  rw [show ((m : Int) + 1 - 1).toNat = m by omega, List.map_map]
  rfl
theorem zip_heads {P : List (List Int)} (hn : ∀ l ∈ P, l ≠ []) (hp : (P.map hd0).Pairwise (· < ·)) : (P.zip P.tail).all (fun p => decide (hd0 p.1 < hd0 p.2)) = true := by
  induction P with
  | nil => rfl
  | cons x P ih =>
    rw [List.map_cons, List.pairwise_cons] at hp
    cases P with
    | nil => rfl
    | cons y r =>
      have := ih (fun l hl => hn l (List.mem_cons_of_mem _ hl)) hp.2
      simp only [List.tail_cons, List.zip_cons_cons, List.all_cons, Bool.and_eq_true, decide_eq_true_eq] at this ⊢
      exact ⟨hp.1 _ (by rw [List.map_cons]; exact List.mem_cons_self), this⟩
theorem head_eI {l : List Int} (h : l ≠ []) : idxF (eI l) (.int 0) = some (.int (hd0 l)) := by
  cases l with
  | nil => exact absurd rfl h
  | cons x r => simp [eI, hd0]
theorem s_is_parting (h21 : T 21 = some D_is_number) (h25 : T 25 = some D_are_numbers) (h26 : T 26 = some D_ascends) (h29 : T 29 = some D_is_parting) (k : Nat) {m : Nat} (P : List (List Int)) (τ : Store) (g : Good m P) (hm : m ≤ 30) : M.call T (k + 3) 29 [eP P] τ = .ok (.bl true, τ) := by
  rw [call_succ h29]
  refine run_val rfl ?_ rfl
  have hsm : ∀ l ∈ P, l.length ≤ 1000000 := fun l hl => by have := len_leS hl; rw [g.len] at this; omega
  have pc := g.cnt
  have h1 : ∀ l ∈ P, M.call T (k + 2) 25 [eI l] τ = .ok (.bl true, τ) := fun l _ => by
    rw [s_are_numbers h21 h25 k (eI l) τ (by simp [eI, flats, flat])]
    simp [eI, areNums, isNum]
  have h2 : ∀ l ∈ P, M.call T (k + 2) 26 [eI l] τ = .ok (.bl true, τ) := fun l hl => by
    rw [s_ascends h26 (k + 1) l τ (hsm l hl), ascB_of (g.asc l hl)]
  have hne : ∀ l : List Int, peq (eI l) (.tup []) = some (decide (l = [])) := fun l => eqv_int.tup.peq (by decide) l []
  have hz := zipF_tup eI eI P P.tail (by omega)
  have hsum : (P.map fun l => (l.length : Int)).sum = (m : Int) := by rw [sum_len, g.len]
  have e0 : eP P = .tup (P.map eI) := rfl
  have hhd : ∀ (l : List Int) (τ : Store), hd τ (eI l) = eI l := fun _ _ => rfl
  have hha : ∀ p ∈ P.zip P.tail, p.1 ∈ P ∧ p.2 ∈ P := fun p hp => by
    have := List.of_mem_zip hp
    exact ⟨this.1, List.mem_of_mem_tail this.2⟩
  have hp : peq (.lst ((P.flatten.mergeSort (fun a b => decide (a ≤ b))).map D.int)) (.lst (((List.range m).map fun i : Nat => 1 + (i : Int)).map D.int)) = some true := by
    have := eqv_int.lst.peq (by decide) (P.flatten.mergeSort (fun a b => decide (a ≤ b))) ((List.range m).map fun i : Nat => 1 + (i : Int))
    rw [sort_eq g.perm (range_pw m)] at this ⊢
    rw [decide_eq_true rfl] at this
    exact this
  have hr : rOk2 1 ((m : Int) + 1) := rOk2_of (by omega) (by omega) (by omega) (by omega)
  have hgt : ¬ ((30 : Int) < (m : Int)) := by omega
  have hso : bltF .sorted (.lst (P.flatten.map D.int)) = some (.lst ((P.flatten.mergeSort (fun a b => decide (a ≤ b))).map D.int)) := sortF_ints _
  have hfl : (P.flatMap fun l => l) = P.flatten := by simp [List.flatMap_def]
  have ha : bltF .all (.lst (P.map fun _ => D.bl true)) = some (.bl true) := by rw [all_map (fun _ => true)]; simp
  have hb : bltF .all (.lst ((P.zip P.tail).map fun p => D.bl (decide (hd0 p.1 < hd0 p.2)))) = some (.bl true) := by rw [all_map, zip_heads g.ne g.heads]
  simp only [D_is_parting, startE]
  simp [isTys, isTy, e0]
  rw [lcOut_map (F := fun _ => D.bl true)]
  rotate_left
  · intro l hl
    simp [lcTurn, wipeE, setTgt, h1 l hl, h2 l hl, hhd, hne, g.ne l hl]
  simp [ha]
  rw [lcOut_map (F := fun l : List Int => D.int (l.length : Int))]
  rotate_left
  · intro l hl
    simp [lcTurn, wipeE, setTgt, hhd]
    simp [eI]
  simp [sum_map, hsum, hgt]
  rw [lcOut2_map (F := fun l : List Int => l) (e' := D.int)]
  rotate_left
  · intro l hl
    simp [lcTurn2, lcTurn, wipeE, setTgt, hhd]
    have : items (eI l) = some (l.map D.int) := rfl
    simp [this]
    rw [lcLoop_map (F := D.int)]
    intro x hx
    rfl
  · rw [hfl, g.len]; omega
  rw [hfl]
  simp [hso, rGo_ok hr, seqD, range_eq, -List.map_map, -List.map_flatten, hp]
  rw [← List.map_tail, hz]
  simp
  rw [lcOut_map (F := fun p : List Int × List Int => D.bl (decide (hd0 p.1 < hd0 p.2)))]
  rotate_left
  · intro p hp
    obtain ⟨q1, q2⟩ := hha p hp
    simp [lcTurn, wipeE, setTgt, hhd, head_eI (g.ne _ q1), head_eI (g.ne _ q2)]
  simp [hb]
end M
set_option Elab.async false
set_option linter.all false
set_option maxRecDepth 100000
set_option maxHeartbeats 4000000
namespace M
open PySem
variable {T : Nat → Option Def}
structure HP (T : Nat → Option Def) : Prop where
  h21 : T 21 = some D_is_number
  h24 : T 24 = some D_is_long
  h25 : T 25 = some D_are_numbers
  h26 : T 26 = some D_ascends
  h27 : T 27 = some D_tupled
  h28 : T 28 = some D_joined
  h29 : T 29 = some D_is_parting
  h30 : T 30 = some D_sure_parting
  h31 : T 31 = some D_size_in
  h32 : T 32 = some D_arcs_in
theorem s_sure (h : HP T) (k : Nat) {m : Nat} (P : List (List Int)) (τ : Store) (g : Good m P) (hm : m ≤ 30) : M.call T (k + 4) 30 [eP P] τ = .ok (eP P, τ) := by
  rw [call_succ h.h30]
  refine run_val rfl ?_ (nr_eP P)
  have hhd : ∀ (τ : Store), hd τ (eP P) = eP P := fun _ => rfl
  simp [D_sure_parting, startE, tupled_P h.h27 k P τ, s_is_parting h.h21 h.h25 h.h26 h.h29 k P τ g hm, hhd]
theorem s_sureL (h : HP T) (k : Nat) {m : Nat} (P : List (List Int)) (τ : Store) (g : Good m P) (hm : m ≤ 30) : M.call T (k + 4) 30 [lP P] τ = .ok (eP P, τ) := by
  rw [call_succ h.h30]
  refine run_val rfl ?_ (nr_eP P)
  have hhd : ∀ (τ : Store), hd τ (eP P) = eP P := fun _ => rfl
  simp [D_sure_parting, startE, tupled_lP h.h27 k P τ, s_is_parting h.h21 h.h25 h.h26 h.h29 k P τ g hm, hhd]
theorem s_size (h : HP T) (k : Nat) {m : Nat} (P : List (List Int)) (τ : Store) (g : Good m P) : M.call T (k + 1) 31 [eP P] τ = .ok (.int m, τ) := by
  rw [call_succ h.h31]
  refine run_val rfl ?_ rfl
  have hhd : ∀ (l : List Int) (τ : Store), hd τ (eI l) = eI l := fun _ _ => rfl
  have e0 : eP P = .tup (P.map eI) := rfl
  have hsum : (P.map fun l => (l.length : Int)).sum = (m : Int) := by rw [sum_len, g.len]
  simp [D_size_in, startE, e0]
  rw [lcOut_map (F := fun l : List Int => D.int (l.length : Int))]
  rotate_left
  · intro l hl
    simp [lcTurn, wipeE, setTgt, hhd]
    simp [eI]
  simp [sum_map, hsum]
/-- the order of pairs -/
def ltA : Int × Int → Int × Int → Bool := ltPr (fun a b => decide (a < b)) (fun a b => decide (a < b))
def pA : Int × Int → PyData := prP pI pI
theorem ord_A : Ordd 1 eA pA ltA := ord_int.pair ord_int fun b => by simp
theorem lord_A : LOrd ltA := lord_int.pr lord_int
def rawArcs (P : List (List Int)) : List (Int × Int) := P.flatMap fun l => l.zip l.tail
def arcsOf (P : List (List Int)) : List (Int × Int) := (rawArcs P).mergeSort fun a b => !ltA b a
theorem sort_A (xs : List (Int × Int)) : sortF false (xs.map eA) = some (.lst ((xs.mergeSort fun a b => !ltA b a).map eA)) := sort_map ord_A (by decide) (sortable_pr xs)
theorem raw_len (P : List (List Int)) : (rawArcs P).length ≤ P.flatten.length := by
  unfold rawArcs
  induction P with
  | nil => exact Nat.le_refl _
  | cons a P ih => rw [List.flatMap_cons, List.flatten_cons, List.length_append, List.length_append, List.length_zip, List.length_tail]; omega
theorem s_arcs_in (h : HP T) (k : Nat) {m : Nat} (P : List (List Int)) (τ : Store) (g : Good m P) (hm : m ≤ 30) : M.call T (k + 2) 32 [eP P] τ = .ok (eAs (arcsOf P), τ) := by
  rw [call_succ h.h32]
  refine run_val rfl ?_ (nr_eAs _)
  have hsm : ∀ l ∈ P, l.length ≤ 1000000 := fun l hl => by have := len_leS hl; rw [g.len] at this; omega
  have e0 : eP P = .tup (P.map eI) := rfl
  have hrl : (rawArcs P).length ≤ 1000000 := by have := raw_len P; rw [g.len] at this; omega
  have hfl : ((P.map fun l => (l.zip l.tail).map eA)).flatten = (rawArcs P).map eA := by
    unfold rawArcs
    rw [List.flatMap_def, List.map_flatten, List.map_map]; rfl
  have hj := s_joined h.h28 k (P.map fun l => (l.zip l.tail).map eA) τ (by rw [hfl, List.length_map]; exact hrl) (by rw [hfl]; exact nrs_map nr_eA)
  rw [hfl, List.map_map] at hj
  have hso : bltF .sorted (.lst ((rawArcs P).map eA)) = some (.lst ((arcsOf P).map eA)) := sort_A _
  simp [D_arcs_in, startE, e0]
  rw [lcOut_map (F := D.lst ∘ fun l : List Int => (l.zip l.tail).map eA)]
  rotate_left
  · intro l hl
    have hz := zipF_tup D.int D.int l l.tail (hsm l hl)
    simp [lcTurn, wipeE, setTgt, eI, ← List.map_tail, hz]
    intro a b hab
    rfl
  simp [hj, hso, eAs]
end M
set_option Elab.async false
set_option linter.all false
set_option maxRecDepth 100000
set_option maxHeartbeats 4000000
namespace M
open PySem
variable {T : Nat → Option Def}
structure HA (T : Nat → Option Def) : Prop extends HP T where
  h34 : T 34 = some D_are_arcs_in
  h40 : T 40 = some D_arcs_of
  h63 : T 63 = some D_do_cross
  h64 : T 64 = some D_is_nested
  h65 : T 65 = some D_pairs_of
  h66 : T 66 = some D_count_in
  h67 : T 67 = some D_longest_over
  h68 : T 68 = some D_most_in
  h69 : T 69 = some D_all_do
  h70 : T 70 = some D_is_lot_in
  h71 : T 71 = some D_crossings
  h72 : T 72 = some D_nestings
  h73 : T 73 = some D_most_crossing
  h74 : T 74 = some D_most_nested
  h75 : T 75 = some D_all_cross
  h76 : T 76 = some D_all_nested
theorem s_arcs_of (h : HA T) (k : Nat) {m : Nat} (P : List (List Int)) (τ : Store) (g : Good m P) (hm : m ≤ 30) : M.call T (k + 5) 40 [eP P] τ = .ok (eAs (arcsOf P), τ) := by
  rw [call_succ h.h40]
  refine run_val rfl ?_ (nr_eAs _)
  simp [D_arcs_of, startE, s_sure h.toHP k P τ g hm, s_arcs_in h.toHP (k + 2) P τ g hm]
def crossB (p q : Int × Int) : Bool := (decide (p.1 < q.1) && decide (q.1 < p.2) && decide (p.2 < q.2)) || (decide (q.1 < p.1) && decide (p.1 < q.2) && decide (q.2 < p.2))
def nestB (p q : Int × Int) : Bool := (decide (p.1 < q.1) && decide (q.2 < p.2)) || (decide (q.1 < p.1) && decide (p.2 < q.2))
def doB (way : Int) (p q : Int × Int) : Bool := if way = 1 then crossB p q else nestB p q
@[simp] theorem idx0_eA (p : Int × Int) : idxF (eA p) (.int 0) = some (.int p.1) := by simp [eA]
@[simp] theorem idx1_eA (p : Int × Int) : idxF (eA p) (.int 1) = some (.int p.2) := by simp [eA]
@[simp] theorem hd_eA (τ : Store) (p : Int × Int) : hd τ (eA p) = eA p := rfl
@[simp] theorem hd_eAs (τ : Store) (p : List (Int × Int)) : hd τ (eAs p) = eAs p := rfl
@[simp] theorem hd_eI (τ : Store) (p : List Int) : hd τ (eI p) = eI p := rfl
@[simp] theorem hd_eP (τ : Store) (p : List (List Int)) : hd τ (eP p) = eP p := rfl
theorem s_cross (h : HA T) (k : Nat) (p q : Int × Int) (τ : Store) : M.call T (k + 1) 63 [eA p, eA q] τ = .ok (.bl (crossB p q), τ) := by
  rw [call_succ h.h63]
  refine run_val rfl ?_ rfl
  simp [D_do_cross, startE, crossB]
  by_cases h1 : p.1 < q.1 <;> by_cases h2 : q.1 < p.2 <;> by_cases h3 : p.2 < q.2 <;> by_cases h4 : q.1 < p.1 <;> by_cases h5 : p.1 < q.2 <;> by_cases h6 : q.2 < p.2 <;> simp [h1, h2, h3, h4, h5, h6]
theorem s_nest (h : HA T) (k : Nat) (p q : Int × Int) (τ : Store) : M.call T (k + 1) 64 [eA p, eA q] τ = .ok (.bl (nestB p q), τ) := by
  rw [call_succ h.h64]
  refine run_val rfl ?_ rfl
  simp [D_is_nested, startE, nestB]
  by_cases h1 : p.1 < q.1 <;> by_cases h3 : p.2 < q.2 <;> by_cases h4 : q.1 < p.1 <;> by_cases h6 : q.2 < p.2 <;> simp [h1, h3, h4, h6]
def pairsL {α : Type} : List α → List (α × α)
  | [] => []
  | x :: xs => xs.map (fun y => (x, y)) ++ pairsL xs
def ePr (x : (Int × Int) × (Int × Int)) : D := .tup [eA x.1, eA x.2]
theorem pairs_len {α : Type} : ∀ xs : List α, (pairsL xs).length ≤ xs.length * xs.length
  | [] => Nat.le_refl _
  | x :: xs => by
    have := pairs_len xs
    simp only [pairsL, List.length_append, List.length_map, List.length_cons]
    have e : (xs.length + 1) * (xs.length + 1) = xs.length * xs.length + xs.length + xs.length + 1 := by
      rw [Nat.add_mul, Nat.mul_add]; omega
    omega
theorem enum_map {α : Type} (e : α → D) : ∀ (xs : List α) (k : Nat), enumD k (xs.map e) = (xs.zipIdx k).map fun x => .tup [.int (x.2 : Int), e x.1]
  | [], k => rfl
  | x :: xs, k => by
    rw [List.map_cons, enumD, enum_map e xs (k + 1), List.zipIdx_cons, List.map_cons]
theorem pairs_idx {α : Type} (full : List α) : ∀ (xs : List α) (k : Nat), full.drop k = xs → ((xs.zipIdx k).flatMap fun x => (full.drop (x.2 + 1)).map fun y => (x.1, y)) = pairsL xs
  | [], k, _ => rfl
  | x :: xs, k, h => by
    have h2 : full.drop (k + 1) = xs := by rw [← List.drop_drop, h]; rfl
    rw [List.zipIdx_cons, List.flatMap_cons, pairs_idx full xs (k + 1) h2]
    simp only [h2, pairsL]
theorem s_pairs (h : HA T) (k : Nat) (as : List (Int × Int)) (τ : Store) (hl : as.length ≤ 1000) : M.call T (k + 1) 65 [eAs as] τ = .ok (.lst ((pairsL as).map ePr), τ) := by
  rw [call_succ h.h65]
  refine run_val rfl ?_ (by simp only [nr_lst]; exact nrs_map fun x => rfl)
  have e0 : eAs as = .tup (as.map eA) := rfl
  have hp : (as.zipIdx 0).flatMap (fun x => (as.drop (x.2 + 1)).map fun y => (x.1, y)) = pairsL as := pairs_idx as as 0 rfl
  have hb : (pairsL as).length ≤ 1000000 := by
    have := pairs_len as
    have : as.length * as.length ≤ 1000 * 1000 := Nat.mul_le_mul hl hl
    omega
  simp [D_pairs_of, startE, e0, enum_map]
  rw [lcOut2_map (F := fun x : (Int × Int) × Nat => (as.drop (x.2 + 1)).map fun y => (x.1, y)) (e' := ePr)]
  rotate_left
  · intro x hx
    have hc : sliceF (some ((x.2 : Int) + 1)) none (.tup (as.map eA)) = some (.tup ((as.drop (x.2 + 1)).map eA)) := by
      have := cut_drop (as.map eA) (x.2 + 1)
      rw [← List.map_drop] at this
      simp only [sliceF]
      rw [← this]
      rfl
    simp [lcTurn2, wipeE, setTgt, hc, -List.map_drop]
    rw [lcLoop_map (F := fun y => ePr (x.1, y))]
    · rfl
    · intro y hy
      simp [lcTurn, wipeE, setTgt, ePr]
  · rw [hp]; exact hb
  rw [hp]
  simp
theorem s_count (h : HA T) (k : Nat) (as : List (Int × Int)) (way : Int) (τ : Store) (hl : as.length ≤ 1000) : M.call T (k + 2) 66 [eAs as, .int way] τ = .ok (.int ((pairsL as).countP fun x => doB way x.1 x.2), τ) := by
  rw [call_succ h.h66]
  refine run_val rfl ?_ rfl
  by_cases hw : way = 1
  · simp [D_count_in, startE, hw, s_pairs h k as τ hl]
    rw [lcOut_filter (F := fun _ => D.int 1) (p := fun x => crossB x.1 x.2)]
    rotate_left
    · intro x hx
      simp [lcTurn, wipeE, setTgt, ePr, s_cross h k]
      cases crossB x.1 x.2 <;> simp
    simp [doB, List.countP_eq_length_filter]
  · simp [D_count_in, startE, hw, s_pairs h k as τ hl]
    rw [lcOut_filter (F := fun _ => D.int 1) (p := fun x => nestB x.1 x.2)]
    rotate_left
    · intro x hx
      simp [lcTurn, wipeE, setTgt, ePr, s_nest h k]
      cases nestB x.1 x.2 <;> simp
    simp [doB, hw, List.countP_eq_length_filter]
theorem s_all_do (h : HA T) (k : Nat) (as : List (Int × Int)) (way : Int) (τ : Store) (hl : as.length ≤ 1000) : M.call T (k + 2) 69 [eAs as, .int way] τ = .ok (.bl ((pairsL as).all fun x => doB way x.1 x.2), τ) := by
  rw [call_succ h.h69]
  refine run_val rfl ?_ rfl
  by_cases hw : way = 1
  · simp [D_all_do, startE, hw, s_pairs h k as τ hl]
    rw [lcOut_map (F := fun x : (Int × Int) × (Int × Int) => D.bl (crossB x.1 x.2))]
    rotate_left
    · intro x hx
      simp [lcTurn, wipeE, setTgt, ePr, s_cross h k]
    simp [all_map, doB]
  · simp [D_all_do, startE, hw, s_pairs h k as τ hl]
    rw [lcOut_map (F := fun x : (Int × Int) × (Int × Int) => D.bl (nestB x.1 x.2))]
    rotate_left
    · intro x hx
      simp [lcTurn, wipeE, setTgt, ePr, s_nest h k]
    simp [all_map, doB, hw]
end M
set_option Elab.async false
set_option linter.all false
set_option maxRecDepth 100000
set_option maxHeartbeats 4000000
namespace M
open PySem
variable {T : Nat → Option Def}
abbrev Line := List (Int × Int)
def ltK : Int × Line → Int × Line → Bool := ltPr (fun a b => decide (a < b)) (ltL ltA)
def eK : Int × Line → D := prE D.int eAs
def keyL (l : Line) : Int × Line := (-(l.length : Int), l)
theorem ord_K : Ordd 3 eK (prP pI (tupP pA)) ltK := ord_int.pair (ord_A.tup) fun b => ltL_ir b
theorem lord_K : LOrd ltK := lord_int.pr lord_A.l
def best : List Line → Line
  | [] => []
  | x :: xs => (minL ltK (keyL x) (xs.map keyL)).2
theorem min_best (ls : List Line) (hne : ls ≠ []) : bltF .min (.lst (ls.map fun l => .tup [.int (-(l.length : Int)), eAs l])) = some (eK (keyL (best ls))) := by
  cases ls with
  | nil => exact absurd rfl hne
  | cons x xs =>
    have := min_map ord_K (by decide) (fun a => rfl) (keyL x) (xs.map keyL)
    rw [← List.map_cons, List.map_map] at this
    have e : (x :: xs).map (fun l : Line => D.tup [.int (-(l.length : Int)), eAs l]) = (x :: xs).map (eK ∘ keyL) := rfl
    rw [e, this]
    have h : keyL (best (x :: xs)) = minL ltK (keyL x) (xs.map keyL) := by
      have hm := minL_mem (lt := ltK) (xs.map keyL) (keyL x)
      have : ∃ l, minL ltK (keyL x) (xs.map keyL) = keyL l := by
        rcases List.mem_cons.mp hm with h | h
        · exact ⟨x, h⟩
        · obtain ⟨l, _, e⟩ := List.mem_map.mp h; exact ⟨l, e.symm⟩
      obtain ⟨l, hl⟩ := this
      show keyL ((minL ltK (keyL x) (xs.map keyL)).2) = _
      rw [hl]; rfl
    rw [h]
def lastA (l : Line) : Int × Int := l.getLast?.getD (0, 0)
def goodsF (way : Int) (found : List Line) (own : Int × Int) : List Line := (found.filter fun line => decide (0 < (own.2 - (lastA line).2) * way)).map (· ++ [own])
def stepF (way : Int) (found : List Line) (own : Int × Int) : List Line := found ++ [best (goodsF way found own ++ [[own]])]
def overF (spot : Int) (as : Line) : Line := as.filter fun p => decide (p.1 ≤ spot) && decide (spot < p.2)
def longF (as : Line) (spot way : Int) : Line := best ((overF spot as).foldl (stepF way) [] ++ [[]])
theorem idxl_eAs {l : Line} (h : l ≠ []) : idxF (eAs l) (.int (-1)) = some (eA (lastA l)) := by
  cases l with
  | nil => exact absurd rfl h
  | cons x r =>
    have h1 : ¬ ((0 : Int) ≤ -1) := by omega
    have h2 : -(((x :: r).map eA).length : Int) ≤ -1 := by rw [List.length_map, List.length_cons]; omega
    have h3 : ((-1 : Int) + (((x :: r).map eA).length : Int)).toNat = r.length := by rw [List.length_map, List.length_cons]; omega
    simp only [eAs, idxF, L2.atI, L2.ixN, if_neg h1, if_pos h2, h3, Option.bind_some]
    rw [List.getElem?_map]
    unfold lastA
    rw [List.getLast?_eq_getElem?]
    have : (x :: r).length - 1 = r.length := by simp
    rw [this]
    have hlt : r.length < (x :: r).length := by simp
    rw [List.getElem?_eq_getElem hlt]
    rfl
def env8 (as : Line) (spot way : Int) (rows : Line) (n : Nat) (own goods : Option D) : M.Env := [some (eAs as), some (.int spot), some (.int way), some (.lst (rows.map eA)), some (.ref n), own, goods, none]
def bodyL : List MStmt := [.asg (.n 6) (.lc (.bin .add (.var 7) (.tup (.cons (.var 5) .nil))) (.n 7) (.over (.var 4)) (.some (.cmp .gt (.bin .mul (.bin .sub (.idx (.var 5) (.con (.int 1))) (.idx (.idx (.var 7) (.neg (.con (.int 1)))) (.con (.int 1)))) (.var 2)) (.con (.int 0)))) [("line", 7)]), .expr (.mut .append (.var 4) (.idx (.blt .min (.lc (.tup (.cons (.neg (.blt .len (.var 7))) (.cons (.var 7) .nil))) (.n 7) (.over (.bin .add (.var 6) (.lst (.cons (.tup (.cons (.var 5) .nil)) .nil)))) .none [("line", 7)])) (.con (.int 1))))]
theorem mul_way {way : Int} (hw : way = 1 ∨ way = -1) (a : Int) : binF .mul (.int a) (.int way) = some (.int (a * way)) := by
  have : small way = true := by rcases hw with rfl | rfl <;> decide
  simp only [binF, this, Bool.or_true, if_true]
theorem add_eAs {x y : Line} (h : x.length + y.length ≤ 1000000) : binF .add (eAs x) (eAs y) = some (eAs (x ++ y)) := by
  simp only [eAs, binF, List.length_map, if_pos h, List.map_append]
theorem add_lines {x y : List Line} (h : x.length + y.length ≤ 1000000) : binF .add (.lst (x.map eAs)) (.lst (y.map eAs)) = some (.lst ((x ++ y).map eAs)) := by
  simp only [binF, List.length_map, if_pos h, List.map_append]
theorem eK_1 (q : Int × Line) : idxF (eK q) (.int 1) = some (eAs q.2) := by simp [eK, prE]
theorem step_ok (cl : Calls) (τ : Store) (as : Line) (spot way : Int) (rows : Line) (found : List Line) (own : Int × Int) (o g : Option D) (hw : way = 1 ∨ way = -1) (hf : ∀ l ∈ found, l ≠ [] ∧ l.length ≤ 1000) (hl : found.length ≤ 1000) :
    loopF cl τ.length (.n 5) bodyL (eA own) (env8 as spot way rows τ.length o g) (τ ++ [some (found.map eAs)]) = .nx (env8 as spot way rows τ.length (some (eA own)) (some (.lst ((goodsF way found own).map eAs)))) (τ ++ [some ((stepF way found own).map eAs)]) := by
  have hcell : ∀ xs : List D, hd (τ ++ [some xs]) (.ref τ.length) = .lst xs := fun xs => hd_ref (get_app τ _)
  have hcg : ∀ xs : List D, cellGet (τ ++ [some xs]) τ.length = some xs := fun xs => by simp [cellGet]
  have hone : D.tup [eA own] = eAs [own] := rfl
  have hgl : (goodsF way found own).length ≤ found.length := by
    unfold goodsF; rw [List.length_map]; exact List.length_filter_le _ _
  have hadd : ∀ l ∈ found, binF .add (eAs l) (.tup [eA own]) = some (eAs (l ++ [own])) := fun l hl => by
    rw [hone]; refine add_eAs ?_; have := (hf l hl).2; rw [List.length_singleton]; omega
  have hadd2 : binF .add (.lst ((goodsF way found own).map eAs)) (.lst [.tup [eA own]]) = some (.lst ((goodsF way found own ++ [[own]]).map eAs)) := by
    have := add_lines (x := goodsF way found own) (y := [[own]]) (by rw [List.length_singleton]; omega)
    exact this
  have hmin := min_best (goodsF way found own ++ [[own]]) (by simp)
  have hap : ∀ d : D, mutF τ.length τ.length (found.map eAs) d .append = some (found.map eAs ++ [d], .non) := fun d => by
    have h1 : (found.map eAs).length < 1000000 := by rw [List.length_map]; omega
    simp only [mutF]
    rw [if_pos ⟨h1, by simp [mayPut]⟩]
  rw [loopF_n]
  simp only [bodyL, env8]
  simp [hcell, cellOf, hcg, mutArg, watch]
  rw [lcOut_filter (e := eAs) (F := fun l => eAs (l ++ [own])) (p := fun line => decide (0 < (own.2 - (lastA line).2) * way))]
  rotate_left
  · intro l hl
    simp [lcTurn, wipeE, setTgt, idxl_eAs (hf l hl).1, mul_way hw]
    by_cases h0 : 0 < (own.2 - (lastA l).2) * way
    · simp [h0, hadd l hl]
    · simp [h0]
  have hg : (found.filter fun line => decide (0 < (own.2 - (lastA line).2) * way)).map (fun l => eAs (l ++ [own])) = (goodsF way found own).map eAs := by
    unfold goodsF; rw [List.map_map]; rfl
  rw [hg]
  have hco : ∀ xs : List D, cellOf (τ ++ [some xs]) (.ref τ.length) = some τ.length := fun xs => by simp [cellOf, hcg]
  simp [hadd2, hco]
  rw [show (goodsF way found own).map eAs ++ [eAs [own]] = (goodsF way found own ++ [[own]]).map eAs by simp]
  rw [lcOut_map (F := fun l : Line => D.tup [.int (-(l.length : Int)), eAs l])]
  rotate_left
  · intro l hl
    simp [lcTurn, wipeE, setTgt]
    simp [eAs]
  have heK : ∀ (q : Int × Line) (τ : Store), hd τ (eK q) = eK q := fun _ _ => rfl
  simp only [Out.bind_ok, hd_lst, hmin, ofO_some, heK, eK_1, hd_int, hcg, mutArg]
  simp [hap, stepF, keyL]
theorem steps_ok (cl : Calls) (τ : Store) (as : Line) (spot way : Int) (rows0 : Line) (hw : way = 1 ∨ way = -1) : ∀ (rows : Line) (found : List Line) (o g : Option D), (∀ l ∈ found, l ≠ [] ∧ l.length ≤ found.length) → found.length + rows.length ≤ 1000 →
    ∃ o' g', forLoop none (loopF cl τ.length (.n 5) bodyL) (rows.map eA) (env8 as spot way rows0 τ.length o g) (τ ++ [some (found.map eAs)]) = .nx (env8 as spot way rows0 τ.length o' g') (τ ++ [some ((rows.foldl (stepF way) found).map eAs)]) ∧ (∀ l ∈ rows.foldl (stepF way) found, l.length ≤ (rows.foldl (stepF way) found).length) ∧ (rows.foldl (stepF way) found).length = found.length + rows.length
  | [], found, o, g, hf, _ => ⟨o, g, by simp, fun l hl => (hf l hl).2, rfl⟩
  | own :: rows, found, o, g, hf, hl => by
    rw [List.length_cons] at hl
    have hst := step_ok cl τ as spot way rows0 found own o g hw (fun l h => ⟨(hf l h).1, by have := (hf l h).2; omega⟩) (by omega)
    have hb : best (goodsF way found own ++ [[own]]) ∈ goodsF way found own ++ [[own]] := by
      cases hh : goodsF way found own ++ [[own]] with
      | nil => simp at hh
      | cons x xs =>
        have hm := minL_mem (lt := ltK) (xs.map keyL) (keyL x)
        rcases List.mem_cons.mp hm with h | h
        · show (minL ltK (keyL x) (xs.map keyL)).2 ∈ _
          rw [h]; exact List.mem_cons_self
        · obtain ⟨l, h1, h2⟩ := List.mem_map.mp h
          show (minL ltK (keyL x) (xs.map keyL)).2 ∈ _
          rw [← h2]; exact List.mem_cons_of_mem _ h1
    have hsl : (stepF way found own).length = found.length + 1 := by simp [stepF]
    have hf' : ∀ l ∈ stepF way found own, l ≠ [] ∧ l.length ≤ (stepF way found own).length := by
      intro l h
      rw [hsl]
      unfold stepF at h
      rcases List.mem_append.mp h with h | h
      · have := hf l h; exact ⟨this.1, by omega⟩
      · rw [List.mem_singleton] at h
        rw [h]
        have key : ∀ B ∈ goodsF way found own ++ [[own]], B ≠ [] ∧ B.length ≤ found.length + 1 := fun B hB => by
          rcases List.mem_append.mp hB with h2 | h2
          · unfold goodsF at h2
            obtain ⟨l', h3, h4⟩ := List.mem_map.mp h2
            have := hf l' (List.mem_filter.mp h3).1
            rw [← h4]
            refine ⟨by simp, by rw [List.length_append, List.length_singleton]; omega⟩
          · rw [List.mem_singleton] at h2
            rw [h2]; exact ⟨by simp, by simp⟩
        exact key _ hb
    obtain ⟨o', g', ih, ih2, ih3⟩ := steps_ok cl τ as spot way rows0 hw rows (stepF way found own) (some (eA own)) (some (.lst ((goodsF way found own).map eAs))) hf' (by rw [hsl]; omega)
    refine ⟨o', g', ?_, ih2, by rw [List.foldl_cons, ih3, hsl, List.length_cons]; omega⟩
    rw [List.map_cons, forLoop_nx (w := none) hst trivial, ih, List.foldl_cons]
theorem s_longest (h : HA T) (k : Nat) (as : Line) (spot way : Int) (τ : Store) (hw : way = 1 ∨ way = -1) (hl : as.length ≤ 1000) : M.call T (k + 1) 67 [eAs as, .int spot, .int way] τ = .ok (eAs (longF as spot way), τ) := by
  have hov : (overF spot as).length ≤ 1000 := Nat.le_trans (List.length_filter_le _ _) hl
  obtain ⟨o', g', e1, e2, e3⟩ := steps_ok (M.call T k) τ as spot way (overF spot as) hw (overF spot as) [] none none (fun l h => by cases h) (by simpa using hov)
  have hcell : ∀ xs : List D, hd (τ ++ [some xs]) (.ref τ.length) = .lst xs := fun xs => hd_ref (get_app τ _)
  have hF := (overF spot as).foldl (stepF way) []
  rw [call_succ h.h67]
  have e0 : eAs as = .tup (as.map eA) := rfl
  have main : SL (M.call T k) τ.length D_longest_over.body (startE D_longest_over.N [eAs as, .int spot, .int way]) τ = .rt (eAs (longF as spot way)) (τ ++ [some (((overF spot as).foldl (stepF way) []).map eAs)]) := by
    have hadd2 : binF .add (.lst (((overF spot as).foldl (stepF way) []).map eAs)) (.lst [.tup []]) = some (.lst (((overF spot as).foldl (stepF way) [] ++ [[]]).map eAs)) := by
      have := add_lines (x := (overF spot as).foldl (stepF way) []) (y := [[]]) (by rw [e3, List.length_singleton]; simp; omega)
      exact this
    have hmin := min_best ((overF spot as).foldl (stepF way) [] ++ [[]]) (by simp)
    have heK : ∀ (q : Int × Line) (τ : Store), hd τ (eK q) = eK q := fun _ _ => rfl
    have hrows : lcOut none (fun d τ1 => lcTurn (wipeE (startE D_longest_over.N [eAs as, .int spot, .int way]) [5]) (.n 5) (EC (M.call T k) τ.length (.some (.cmp2 .le .lt (.idx (.var 5) (.con (.int 0))) (.var 1) (.idx (.var 5) (.con (.int 1)))))) (E (M.call T k) τ.length (.var 5)) d τ1) (as.map eA) τ = .ok (.lst ((overF spot as).map eA), τ) := by
      refine lcOut_filter (F := eA) (p := fun p => decide (p.1 ≤ spot) && decide (spot < p.2)) fun p hp => ?_
      simp [lcTurn, wipeE, setTgt, startE, D_longest_over]
      by_cases h1 : p.1 ≤ spot <;> by_cases h2 : spot < p.2 <;> simp [h1, h2]
    simp only [D_longest_over, startE] at hrows ⊢
    simp [e0]
    simp [e0] at hrows
    rw [hrows]
    simp [setTgt]
    have e1' := e1
    simp only [bodyL, env8, e0, List.map_nil] at e1'
    rw [e1']
    simp [hcell, hadd2, watch]
    rw [show ((overF spot as).foldl (stepF way) []).map eAs ++ [eAs []] = ((overF spot as).foldl (stepF way) [] ++ [[]]).map eAs by simp]
    rw [lcOut_map (F := fun l : Line => D.tup [.int (-(l.length : Int)), eAs l])]
    rotate_left
    · intro l hl
      simp [lcTurn, wipeE, setTgt]
      simp [eAs]
    simp only [Out.bind_ok, hd_lst, hmin, ofO_some, heK, eK_1, hd_int]
    simp [longF, keyL]
  unfold runDef
  rw [if_pos (by rfl), main]
  simp only [fin_nr (nr_eAs _), take_app]
end M
set_option Elab.async false
set_option linter.all false
set_option maxRecDepth 100000
set_option maxHeartbeats 4000000
namespace M
open PySem
variable {T : Nat → Option Def}
def rangeL (m : Nat) : List Int := (List.range m).map fun i : Nat => 1 + (i : Int)
def mostF (as : Line) (m : Nat) (way : Int) : Line := best ((rangeL m).map (fun s => longF as s way) ++ [[]])
theorem s_most (h : HA T) (k : Nat) (as : Line) (m : Nat) (way : Int) (τ : Store) (hw : way = 1 ∨ way = -1) (hl : as.length ≤ 1000) (hm : m ≤ 500) : M.call T (k + 2) 68 [eAs as, .int m, .int way] τ = .ok (eAs (mostF as m way), τ) := by
  rw [call_succ h.h68]
  refine run_val rfl ?_ (nr_eAs _)
  have hr : rOk2 1 ((m : Int) + 1) := rOk2_of (by omega) (by omega) (by omega) (by omega)
  have hll : ((rangeL m).map (fun s => longF as s way)).length = m := by simp [rangeL]
  have hadd2 : binF .add (.lst (((rangeL m).map (fun s => longF as s way)).map eAs)) (.lst [.tup []]) = some (.lst (((rangeL m).map (fun s => longF as s way) ++ [[]]).map eAs)) := by
    have := add_lines (x := (rangeL m).map (fun s => longF as s way)) (y := [[]]) (by rw [hll, List.length_singleton]; omega)
    exact this
  have hmin := min_best ((rangeL m).map (fun s => longF as s way) ++ [[]]) (by simp)
  have heK : ∀ (q : Int × Line) (τ : Store), hd τ (eK q) = eK q := fun _ _ => rfl
  have hre : intRange 1 ((m : Int) + 1) = (rangeL m).map D.int := range_eq m
  simp only [D_most_in, startE]
  simp [rIt_ok hr, hre]
  rw [lcOut_map (F := fun s => eAs (longF as s way))]
  rotate_left
  · intro s hs
    simp [lcTurn, wipeE, setTgt, s_longest h k as s way τ hw hl]
  rw [show (rangeL m).map (fun s => eAs (longF as s way)) = ((rangeL m).map (fun s => longF as s way)).map eAs by rw [List.map_map]; rfl]
  simp only [Out.bind_ok, Out_to_ok', setTgt_n, hd_lst]
  simp [hadd2, -List.map_map]
  rw [show ((rangeL m).map (fun s => longF as s way)).map eAs ++ [eAs []] = ((rangeL m).map (fun s => longF as s way) ++ [[]]).map eAs by simp]
  rw [lcOut_map (F := fun l : Line => D.tup [.int (-(l.length : Int)), eAs l])]
  rotate_left
  · intro l hl
    simp [lcTurn, wipeE, setTgt]
    simp [eAs]
  simp only [Out.bind_ok, hd_lst, hmin, ofO_some, heK, eK_1, hd_int]
  simp [mostF, keyL]
theorem s_are_no (h : HA T) (k : Nat) (m : Int) (d : D) (τ : Store) (hf : flat d = true) (hn : ∀ xs, d ≠ .tup xs) : M.call T (k + 1) 34 [.int m, d] τ = .ok (.bl false, τ) := by
  rw [call_succ h.h34]
  refine run_val rfl ?_ rfl
  cases d <;> first
    | exact absurd hf Bool.false_ne_true
    | exact absurd rfl (hn _)
    | simp [D_are_arcs_in, startE, isTys, isTy]
def pairD (d : D) : Bool := isLong d 2 && areNums d
theorem items_lc (h : HA T) (k : Nat) (b : Nat) (ρ : M.Env) (hρ : ρ.length = 7) (xs : List D) (τ : Store) (hf : ∀ x ∈ xs, flat x = true ∧ flats x = true) : lcOut none (fun d τ1 => lcTurn (wipeE ρ [4]) (.n 4) (EC (M.call T (k + 2)) b .none) (E (M.call T (k + 2)) b (.band (.cons (.call 24 (.cons (.var 4) (.cons (.con (.int 2)) .nil))) (.cons (.call 25 (.cons (.var 4) .nil)) .nil)))) d τ1) xs τ = .ok (.lst (xs.map fun x => .bl (pairD x)), τ) := by
  refine lcOut_mapD fun x hx => ?_
  obtain ⟨h1, h2⟩ := hf x hx
  have hv : ((wipeE ρ [4]).set 4 (some x))[4]? = some (some x) := by
    rw [List.getElem?_set_self]
    simp [wipeE, hρ]
  have e1 := s_is_long h.h24 (k + 1) x 2 τ h1
  have e2 := s_are_numbers h.h21 h.h25 k x τ h2
  simp [lcTurn, hv, e1, pairD]
  cases isLong x 2 <;> simp [e2]
theorem s_are_bad (h : HA T) (k : Nat) (m : Int) (xs : List D) (τ : Store) (hf : ∀ x ∈ xs, flat x = true ∧ flats x = true) (hb : xs.all pairD = false) : M.call T (k + 3) 34 [.int m, .tup xs] τ = .ok (.bl false, τ) := by
  rw [call_succ h.h34]
  refine run_val rfl ?_ rfl
  have hl := items_lc h k τ.length (startE D_are_arcs_in.N [.int m, .tup xs]) rfl xs τ hf
  have ha : bltF .all (.lst (xs.map fun x => .bl (pairD x))) = some (.bl false) := by rw [all_map, hb]
  simp only [D_are_arcs_in, startE] at hl ⊢
  simp [isTys, isTy]
  simp at hl
  rw [hl]
  simp [ha]
def arcsInB (m : Int) (as : Line) : Bool := as.all (fun p => decide (1 ≤ p.1) && decide (p.1 < p.2) && decide (p.2 ≤ m)) && (ascB (as.map (·.1)) && decide ((dedupI (as.map (·.2))).length = as.length))
theorem s_are (h : HA T) (k : Nat) (m : Int) (as : Line) (τ : Store) (hl : as.length ≤ 1000) : M.call T (k + 3) 34 [.int m, eAs as] τ = .ok (.bl (arcsInB m as), τ) := by
  rw [call_succ h.h34]
  refine run_val rfl ?_ rfl
  have e0 : eAs as = .tup (as.map eA) := rfl
  have hf : ∀ x ∈ as.map eA, flat x = true ∧ flats x = true := fun x hx => by
    obtain ⟨p, _, rfl⟩ := List.mem_map.mp hx
    exact ⟨rfl, rfl⟩
  have hlc := items_lc h k τ.length (startE D_are_arcs_in.N [.int m, .tup (as.map eA)]) rfl (as.map eA) τ hf
  have ha : bltF .all (.lst ((as.map eA).map fun x => .bl (pairD x))) = some (.bl true) := by
    rw [all_map]
    congr 2
    rw [List.all_eq_true]
    intro x hx
    obtain ⟨p, _, rfl⟩ := List.mem_map.mp hx
    rfl
  have hz := zipF_lst D.int D.int (as.map (·.1)) (as.map (·.1)).tail (by rw [List.length_map]; omega)
  have hset : lensetF (.lst ((as.map (·.2)).map D.int)) = some (.int (dedupI (as.map (·.2))).length) := by
    have hi : ints? ((as.map (·.2)).map D.int) = some (as.map (·.2)) := by
      have := ints_map (fun i : Int => i) (as.map (·.2))
      rw [List.map_id'] at this
      exact this
    simp only [lensetF, hi, Option.bind_some, List.length_map, if_pos hl]
  simp only [D_are_arcs_in, startE] at hlc ⊢
  simp [isTys, isTy, e0, -List.map_map]
  simp [-List.map_map] at hlc
  rw [hlc]
  simp [ha, -List.map_map]
  rw [lcOut_map (F := fun p : Int × Int => D.bl (decide (1 ≤ p.1) && decide (p.1 < p.2) && decide (p.2 ≤ m)))]
  rotate_left
  · intro p hp
    simp [lcTurn, wipeE, setTgt]
    by_cases h1 : 1 ≤ p.1 <;> by_cases h2 : p.1 < p.2 <;> simp [h1, h2]
  simp [all_map, -List.map_map]
  unfold arcsInB
  cases hall : as.all (fun p => decide (1 ≤ p.1) && decide (p.1 < p.2) && decide (p.2 ≤ m)) with
  | false => simp
  | true =>
    simp [-List.map_map]
    rw [lcOut_map (F := fun p : Int × Int => D.int p.1)]
    rotate_left
    · intro p hp
      simp [lcTurn, wipeE, setTgt]
    simp only [Out.bind_ok]
    rw [lcOut_map (F := fun p : Int × Int => D.int p.2)]
    rotate_left
    · intro p hp
      simp [lcTurn, wipeE, setTgt]
    rw [show as.map (fun p => D.int p.1) = (as.map (·.1)).map D.int by rw [List.map_map]; rfl, show as.map (fun p => D.int p.2) = (as.map (·.2)).map D.int by rw [List.map_map]; rfl]
    rw [List.map_tail] at hz
    have hz' : zipF (.lst ((as.map (·.1)).map D.int)) (.lst (((as.tail).map (·.1)).map D.int)) = some (((as.map (·.1)).zip (as.map (·.1)).tail).map fun p => .tup [.int p.1, .int p.2]) := by
      rw [← zipF_lst D.int D.int (as.map (·.1)) (as.map (·.1)).tail (by rw [List.length_map]; omega)]
      rw [← List.map_tail]
    simp [setTgt, ← List.map_tail, hz', -List.map_map]
    rw [lcOut_map (F := fun p : Int × Int => D.bl (decide (p.1 < p.2)))]
    rotate_left
    · intro p hp
      simp [lcTurn, wipeE, setTgt]
    have hall2 : bltF .all (.lst (((as.map (·.1)).zip (as.map (·.1)).tail).map fun p => D.bl (decide (p.1 < p.2)))) = some (.bl (ascB (as.map (·.1)))) := all_map _ _
    simp only [List.map_tail] at hall2 ⊢
    simp only [Out.bind_ok, hd_lst, hall2, ofO_some, hd_blS, tru_blS]
    cases hasc : ascB (as.map (·.1)) with
    | false => simp
    | true =>
      simp [hset, -List.map_map]
      omega
theorem in_arcs (p : Int × Int) (as : Line) : inF (eA p) (eAs as) = some (decide (p ∈ as)) := by
  have hE : Eqv 1 eA pA := ord_A.toEqv
  have h1 : M.py (eA p) = some (pA p) := hE.py p
  have h2 : pyL (as.map eA) = some (as.map pA) := pyL_map hE.py as
  have h3 : SeqAt.shaped (.tuple (as.map pA)) = true := hE.tup.sh (by decide) as
  simp only [eAs, inF, h1, h2, Option.bind_some]
  rw [if_pos ⟨hE.sh (by decide) p, h3⟩]
  congr 1
  rw [Bool.eq_iff_iff, List.any_eq_true, decide_eq_true_eq]
  constructor
  · rintro ⟨x, hx, e⟩
    obtain ⟨q, hq, rfl⟩ := List.mem_map.mp hx
    rw [(hE.eq q p).mp e] at hq
    exact hq
  · intro hp
    exact ⟨pA p, List.mem_map_of_mem hp, (hE.eq p p).mpr rfl⟩
theorem s_lot_no (h : HA T) (k : Nat) {m : Nat} (P : List (List Int)) (d : D) (way : Int) (τ : Store) (g : Good m P) (hn : M.call T (k + 3) 34 [.int m, d] τ = .ok (.bl false, τ)) : M.call T (k + 4) 70 [eP P, d, .int way] τ = .ok (.bl false, τ) := by
  rw [call_succ h.h70]
  refine run_val rfl ?_ rfl
  simp [D_is_lot_in, startE, s_size h.toHP (k + 2) P τ g, hn]
def lotB (P : List (List Int)) (m : Nat) (as : Line) (way : Int) : Bool := arcsInB m as && (as.all (fun p => decide (p ∈ arcsOf P)) && (pairsL as).all fun x => doB way x.1 x.2)
theorem s_lot (h : HA T) (k : Nat) {m : Nat} (P : List (List Int)) (as : Line) (way : Int) (τ : Store) (g : Good m P) (hm : m ≤ 30) (hl : as.length ≤ 1000) : M.call T (k + 4) 70 [eP P, eAs as, .int way] τ = .ok (.bl (lotB P m as way), τ) := by
  rw [call_succ h.h70]
  refine run_val rfl ?_ rfl
  unfold lotB
  cases ha : arcsInB m as with
  | false => simp [D_is_lot_in, startE, s_size h.toHP (k + 2) P τ g, s_are h k m as τ hl, ha]
  | true =>
    have e0 : eAs as = .tup (as.map eA) := rfl
    have hit : items (eAs as) = some (as.map eA) := rfl
    simp [D_is_lot_in, startE, s_size h.toHP (k + 2) P τ g, s_are h k m as τ hl, ha, s_arcs_in h.toHP (k + 1) P τ g hm, hit]
    rw [lcOut_map (F := fun p => D.bl (decide (p ∈ arcsOf P)))]
    rotate_left
    · intro p hp
      simp [lcTurn, wipeE, setTgt, in_arcs]
    have h2 := all_map (fun p => decide (p ∈ arcsOf P)) as
    simp only [Out.bind_ok, hd_lst, h2, ofO_some, hd_blS, tru_blS]
    cases hall : as.all (fun p => decide (p ∈ arcsOf P)) with
    | false => simp
    | true => simp [s_all_do h (k + 1) as way τ hl]
theorem arcs_len {m : Nat} {P : List (List Int)} (g : Good m P) (hm : m ≤ 30) : (arcsOf P).length ≤ 30 := by
  unfold arcsOf
  rw [(List.mergeSort_perm _ _).length_eq]
  have := raw_len P; rw [g.len] at this; omega
theorem s_crossings (h : HA T) (k : Nat) {m : Nat} (P : List (List Int)) (τ : Store) (g : Good m P) (hm : m ≤ 30) : M.call T (k + 5) 71 [eP P] τ = .ok (.int ((pairsL (arcsOf P)).countP fun x => doB 1 x.1 x.2), τ) := by
  have := arcs_len g hm
  rw [call_succ h.h71]
  refine run_val rfl ?_ rfl
  simp [D_crossings, startE, s_sure h.toHP k P τ g hm, s_arcs_in h.toHP (k + 2) P τ g hm, s_count h (k + 2) (arcsOf P) 1 τ (by omega)]
theorem s_nestings (h : HA T) (k : Nat) {m : Nat} (P : List (List Int)) (τ : Store) (g : Good m P) (hm : m ≤ 30) : M.call T (k + 5) 72 [eP P] τ = .ok (.int ((pairsL (arcsOf P)).countP fun x => doB (-1) x.1 x.2), τ) := by
  have := arcs_len g hm
  rw [call_succ h.h72]
  refine run_val rfl ?_ rfl
  simp [D_nestings, startE, s_sure h.toHP k P τ g hm, s_arcs_in h.toHP (k + 2) P τ g hm, s_count h (k + 2) (arcsOf P) (-1) τ (by omega)]
theorem s_nestingsL (h : HA T) (k : Nat) {m : Nat} (P : List (List Int)) (τ : Store) (g : Good m P) (hm : m ≤ 30) : M.call T (k + 5) 72 [lP P] τ = .ok (.int ((pairsL (arcsOf P)).countP fun x => doB (-1) x.1 x.2), τ) := by
  have := arcs_len g hm
  rw [call_succ h.h72]
  refine run_val rfl ?_ rfl
  simp [D_nestings, startE, s_sureL h.toHP k P τ g hm, s_arcs_in h.toHP (k + 2) P τ g hm, s_count h (k + 2) (arcsOf P) (-1) τ (by omega)]
theorem s_most_c (h : HA T) (k : Nat) {m : Nat} (P : List (List Int)) (τ : Store) (g : Good m P) (hm : m ≤ 30) : M.call T (k + 5) 73 [eP P] τ = .ok (eAs (mostF (arcsOf P) m 1), τ) := by
  have := arcs_len g hm
  rw [call_succ h.h73]
  refine run_val rfl ?_ (nr_eAs _)
  simp [D_most_crossing, startE, s_sure h.toHP k P τ g hm, s_arcs_in h.toHP (k + 2) P τ g hm, s_size h.toHP (k + 3) P τ g, s_most h (k + 2) (arcsOf P) m 1 τ (.inl rfl) (by omega) (by omega)]
theorem s_most_n (h : HA T) (k : Nat) {m : Nat} (P : List (List Int)) (τ : Store) (g : Good m P) (hm : m ≤ 30) : M.call T (k + 5) 74 [eP P] τ = .ok (eAs (mostF (arcsOf P) m (-1)), τ) := by
  have := arcs_len g hm
  rw [call_succ h.h74]
  refine run_val rfl ?_ (nr_eAs _)
  simp [D_most_nested, startE, s_sure h.toHP k P τ g hm, s_arcs_in h.toHP (k + 2) P τ g hm, s_size h.toHP (k + 3) P τ g, s_most h (k + 2) (arcsOf P) m (-1) τ (.inr rfl) (by omega) (by omega)]
theorem s_all_c (h : HA T) (k : Nat) {m : Nat} (P : List (List Int)) (d : D) (b : Bool) (τ : Store) (g : Good m P) (hm : m ≤ 30) (hd : M.call T (k + 4) 70 [eP P, d, .int 1] τ = .ok (.bl b, τ)) : M.call T (k + 5) 75 [eP P, d] τ = .ok (.bl b, τ) := by
  rw [call_succ h.h75]
  refine run_val rfl ?_ rfl
  simp [D_all_cross, startE, s_sure h.toHP k P τ g hm, hd]
theorem s_all_n (h : HA T) (k : Nat) {m : Nat} (P : List (List Int)) (d : D) (b : Bool) (τ : Store) (g : Good m P) (hm : m ≤ 30) (hd : M.call T (k + 4) 70 [eP P, d, .int (-1)] τ = .ok (.bl b, τ)) : M.call T (k + 5) 76 [eP P, d] τ = .ok (.bl b, τ) := by
  rw [call_succ h.h76]
  refine run_val rfl ?_ rfl
  simp [D_all_nested, startE, s_sure h.toHP k P τ g hm, hd]
end M
set_option Elab.async false
set_option linter.all false
set_option maxRecDepth 100000
set_option maxHeartbeats 4000000
namespace M
open PySem
variable {T : Nat → Option Def}
theorem small_of {i : Int} (h1 : -(2 ^ 63) ≤ i) (h2 : i ≤ 2 ^ 63) : small i = true := by
  unfold small
  rw [Bool.and_eq_true, decide_eq_true_eq, decide_eq_true_eq]
  omega
theorem mul_l {a b : Int} (h : small a = true) : binF .mul (.int a) (.int b) = some (.int (a * b)) := by
  simp only [binF, h, Bool.true_or, if_true]
theorem mul_r {a b : Int} (h : small b = true) : binF .mul (.int a) (.int b) = some (.int (a * b)) := by
  simp only [binF, h, Bool.or_true, if_true]
theorem mod_ok {a b : Int} (h : b ≠ 0) : binF .mod (.int a) (.int b) = some (.int (a.fmod b)) := by
  simp only [binF, if_pos h]
theorem div_ok {a b : Int} (h : b ≠ 0) (h2 : b.natAbs < 1073741824) : binF .fdiv (.int a) (.int b) = some (.int (a.fdiv b)) := by
  simp only [binF, if_pos (And.intro h h2)]
/-- the drawing cell -/
def TinOK (c : Nat) (t : List D) : Prop := ∃ a b e : Int, t = [.int a, .int b, .int e] ∧ 0 ≤ a ∧ 0 ≤ b ∧ 0 ≤ e ∧ e ≤ (c : Int)
theorem TinOK.mono {c d : Nat} {t : List D} (h : TinOK c t) (k : c ≤ d) : TinOK d t := by
  obtain ⟨a, b, e, h1, h2, h3, h4, h5⟩ := h
  exact ⟨a, b, e, h1, h2, h3, h4, by omega⟩
theorem s_take (h9 : T 9 = some D__law_take) (k : Nat) (c : Nat) (t : List D) (r : Store) (n : Nat) (hc : c ≤ 1000000) (ht : TinOK c t) (hn : 0 < n) (hn2 : n ≤ 1000000) :
    ∃ (v : Nat) (t' : List D), M.call T (k + 1) 9 [.ref 0, .int n] (some t :: r) = .ok (.int v, some t' :: r) ∧ v < n ∧ TinOK (c + 1) t' := by
  obtain ⟨a, b, e, rfl, ha, hb, he, hec⟩ := ht
  rw [call_succ h9]
  have hn0 : (n : Int) ≠ 0 := by omega
  have hnp : (0 : Int) < n := by omega
  have hna : (n : Int).natAbs < 1073741824 := by omega
  have get0 : ∀ t : List D, (some t :: r : Store)[0]? = some (some t) := fun _ => rfl
  have hget : ∀ x y z : D, hd (some [x, y, z] :: r) (.ref 0) = .lst [x, y, z] := fun x y z => hd_ref (get0 _)
  have hcg : ∀ t : List D, cellGet (some t :: r) 0 = some t := fun t => rfl
  have i0 : ∀ x y z : D, idxF (.lst [x, y, z]) (.int 0) = some x := fun x y z => rfl
  have i1 : ∀ x y z : D, idxF (.lst [x, y, z]) (.int 1) = some y := fun x y z => rfl
  have i2 : ∀ x y z : D, idxF (.lst [x, y, z]) (.int 2) = some z := fun x y z => rfl
  have hset0 : ∀ (x y z : D) (i : Int), setIdx (r.length + 1) (.ref 0) (.int 0) (.int i) (some [x, y, z] :: r) = some (some [.int i, y, z] :: r) := fun x y z i => by
    simp only [setIdx, hcg, Option.bind_some]
    simp [L2.ixN, mayPut]
  have hset2 : ∀ (x y z : D) (i : Int), setIdx (r.length + 1) (.ref 0) (.int 2) (.int i) (some [x, y, z] :: r) = some (some [x, y, .int i] :: r) := fun x y z i => by
    simp only [setIdx, hcg, Option.bind_some]
    simp [L2.ixN, mayPut]
  have nonneg : ∀ x : Int, 0 ≤ x.fmod n := fun x => Int.fmod_nonneg_of_pos x hnp
  have ltn : ∀ x : Int, x.fmod n < n := fun x => Int.fmod_lt_of_pos x hnp
  by_cases h0 : 0 < a
  · refine ⟨(a.fmod n).toNat, [.int (a.fdiv n), .int b, .int e], ?_, by have := nonneg a; have := ltn a; omega, _, _, _, rfl, ?_, hb, he, by omega⟩
    · have main : SL (M.call T k) (r.length + 1) D__law_take.body (startE D__law_take.N [.ref 0, .int n]) (some [.int a, .int b, .int e] :: r) = .rt (.int (a.fmod n)) (some [.int (a.fdiv n), .int b, .int e] :: r) := by
        simp only [D__law_take, startE]
        simp [hget, i0, h0, mod_ok hn0, div_ok hn0 hna, hset0]
      unfold runDef
      rw [if_pos (by rfl)]
      show (match SL (M.call T k) (r.length + 1) D__law_take.body (startE D__law_take.N [.ref 0, .int n]) (some [.int a, .int b, .int e] :: r) with | .rt d τ' => _ | .nx _ τ' => _ | .exc c p _ τ' => _ | _ => _) = _
      rw [main]
      have : ((a.fmod n).toNat : Int) = a.fmod n := Int.toNat_of_nonneg (nonneg a)
      simp [fin_nr, this]
    · exact Int.fdiv_nonneg ha (by omega)
  · have s1 : small 48271 = true := small_of (by omega) (by omega)
    have s2 : small (39373 + (e + 1)) = true := small_of (by omega) (by omega)
    have w : ∀ x : Int, small (x.fmod 40009 + 7) = true := fun x => by
      have h1 : 0 ≤ x.fmod 40009 := Int.fmod_nonneg_of_pos x (by omega)
      have h2 : x.fmod 40009 < 40009 := Int.fmod_lt_of_pos x (by omega)
      exact small_of (by omega) (by omega)
    have m1 : ∀ x : Int, binF .mod (.int x) (.int 2147483647) = some (.int (x.fmod 2147483647)) := fun x => mod_ok (by omega)
    have m2 : ∀ x : Int, binF .mod (.int x) (.int 40009) = some (.int (x.fmod 40009)) := fun x => mod_ok (by omega)
    have m3 : ∀ x : Int, binF .mod (.int x) (.int 2147483629) = some (.int (x.fmod 2147483629)) := fun x => mod_ok (by omega)
    have m4 : ∀ x : Int, binF .mod (.int x) (.int 2147483587) = some (.int (x.fmod 2147483587)) := fun x => mod_ok (by omega)
    have d1 : ∀ x : Int, binF .fdiv (.int x) (.int 1000003) = some (.int (x.fdiv 1000003)) := fun x => div_ok (by omega) (by decide)
    have d2 : ∀ x : Int, binF .fdiv (.int x) (.int 64) = some (.int (x.fdiv 64)) := fun x => div_ok (by omega) (by decide)
    have main : ∃ x : Int, SL (M.call T k) (r.length + 1) D__law_take.body (startE D__law_take.N [.ref 0, .int n]) (some [.int a, .int b, .int e] :: r) = .rt (.int (x.fmod n)) (some [.int a, .int b, .int (e + 1)] :: r) := by
      refine ⟨(((((((b + 48271 * (e + 1)) * (39373 + (e + 1))).fmod 2147483647 + (e + 1) + b.fdiv 1000003) * ((((b + 48271 * (e + 1)) * (39373 + (e + 1))).fmod 2147483647).fmod 40009 + 7)).fmod 2147483629) * 48271 + ((b + 48271 * (e + 1)) * (39373 + (e + 1))).fmod 2147483647).fmod 2147483587).fdiv 64, ?_⟩
      · simp only [D__law_take, startE]
        simp [hget, i0, i1, i2, h0, hset2, mul_l s1, mul_r s1, mul_r s2, mul_r (w _), m1, m2, m3, m4, d1, d2, mod_ok hn0]
    obtain ⟨x, main⟩ := main
    have hv1 := nonneg x
    have hv2 := ltn x
    generalize hv : x.fmod n = v at *
    refine ⟨v.toNat, [.int a, .int b, .int (e + 1)], ?_, by omega, _, _, _, rfl, ha, hb, by omega, by omega⟩
    unfold runDef
    rw [if_pos (by rfl)]
    show (match SL (M.call T k) (r.length + 1) D__law_take.body (startE D__law_take.N [.ref 0, .int n]) (some [.int a, .int b, .int e] :: r) with | .rt d τ' => _ | .nx _ τ' => _ | .exc c p _ τ' => _ | _ => _) = _
    rw [main]
    have : (v.toNat : Int) = v := Int.toNat_of_nonneg hv1
    simp [fin_nr, this]
end M
set_option Elab.async false
set_option linter.all false
set_option maxRecDepth 100000
set_option maxHeartbeats 4000000
namespace M
open PySem
variable {T : Nat → Option Def}
theorem idx_nat {xs : List D} {i : Nat} {d : D} (h : xs[i]? = some d) : idxF (.lst xs) (.int (i : Int)) = some d := by
  have hi := (List.getElem?_eq_some_iff.mp h).1
  have h1 : (0 : Int) ≤ (i : Int) := by omega
  have h2 : (i : Int) < (xs.length : Int) := by omega
  simp only [idxF, L2.atI, L2.ixN, if_pos h1, if_pos h2, Int.toNat_natCast, Option.bind_some, h]
theorem idx_natT {xs : List D} {i : Nat} {d : D} (h : xs[i]? = some d) : idxF (.tup xs) (.int (i : Int)) = some d := by
  have hi := (List.getElem?_eq_some_iff.mp h).1
  have h1 : (0 : Int) ≤ (i : Int) := by omega
  have h2 : (i : Int) < (xs.length : Int) := by omega
  simp only [idxF, L2.atI, L2.ixN, if_pos h1, if_pos h2, Int.toNat_natCast, Option.bind_some, h]
/-- a def that leaves a store of the same length, with new content -/
theorem run_st {cl : Calls} {df : Def} {ds : List D} {τ τ' : Store} {d : D} (hl : ds.length = df.np) (hz : τ'.length = τ.length) (h : SL cl τ.length df.body (startE df.N ds) τ = .rt d τ') (hf : noRef d = true) : runDef cl df ds τ = .ok (d, τ') := by
  rw [run_rt hl h (fin_nr hf), ← hz, List.take_of_length_le (Nat.le_refl _)]
theorem s_of (h9 : T 9 = some D__law_take) (h11 : T 11 = some D__law_of) (k : Nat) (c : Nat) (t : List D) (r : Store) (xs : List D) (hc : c ≤ 1000000) (ht : TinOK c t) (hn : xs ≠ []) (hn2 : xs.length ≤ 1000000) (hr : ∀ x ∈ xs, noRef x = true) :
    ∃ (d : D) (t' : List D), M.call T (k + 2) 11 [.ref 0, .lst xs] (some t :: r) = .ok (d, some t' :: r) ∧ d ∈ xs ∧ TinOK (c + 1) t' := by
  obtain ⟨v, t', e, hv, ht'⟩ := s_take h9 k c t r xs.length hc ht (List.length_pos_iff.mpr hn) hn2
  have hx : xs[v]? = some xs[v] := by simp [hv]
  refine ⟨xs[v], t', ?_, List.getElem_mem hv, ht'⟩
  rw [call_succ h11]
  refine run_st rfl rfl ?_ (hr _ (List.getElem_mem hv))
  simp [D__law_of, startE, e, idx_nat hx]
theorem lists_seq (h51 : T 51 = some D__law_lists) (k : Nat) {α : Type} (e F : α → D) (xs : List α) (τ : Store) (h : ∀ x ∈ xs, M.call T k 51 [e x] τ = .ok (F x, τ)) (hr : ∀ x, noRef (F x) = true) : M.call T (k + 1) 51 [.tup (xs.map e)] τ = .ok (.lst (xs.map F), τ) := by
  rw [call_succ h51]
  refine run_val rfl ?_ (by simp only [nr_lst]; exact nrs_map hr)
  simp [D__law_lists, startE, isTys, isTy]
  rw [lcOut_map (F := F)]
  · simp
  · intro x hx
    simp [lcTurn, wipeE, setTgt, h x hx]
theorem lists_leaf (h51 : T 51 = some D__law_lists) (k : Nat) (i : Int) (τ : Store) : M.call T (k + 1) 51 [.int i] τ = .ok (.int i, τ) := by
  rw [call_succ h51]
  refine run_val rfl ?_ rfl
  simp [D__law_lists, startE, isTys, isTy]
theorem s_lists (h51 : T 51 = some D__law_lists) (k : Nat) (P : List (List Int)) (τ : Store) : M.call T (k + 3) 51 [eP P] τ = .ok (lP P, τ) :=
  lists_seq h51 (k + 2) eI lI P τ (fun l _ => lists_seq h51 (k + 1) D.int D.int l τ (fun i _ => lists_leaf h51 k i τ) fun _ => rfl) nr_lI
/-- the same with itself -/
def SameOK (T : Nat → Option Def) (n : Nat) (d : D) : Prop := ∀ (k : Nat) (τ : Store), M.call T (k + n) 13 [d, d] τ = .ok (.bl true, τ)
theorem same_int (h13 : T 13 = some D__law_same) (i : Int) : SameOK T 1 (.int i) := fun k τ => by
  rw [call_succ h13]
  refine run_val rfl ?_ rfl
  have h1 : cmpF .is_ (.int i) .non = some false := rfl
  simp [D__law_same, startE, isTys, isTy, isNon]
theorem same_bl (h13 : T 13 = some D__law_same) (b : Bool) : SameOK T 1 (.bl b) := fun k τ => by
  rw [call_succ h13]
  refine run_val rfl ?_ rfl
  simp [D__law_same, startE, isTys, isTy, isNon]
theorem SameOK.mono {n m : Nat} {d : D} (h : SameOK T n d) (k : n ≤ m) : SameOK T m d := fun j τ => by
  have := h (j + (m - n)) τ
  rw [show j + (m - n) + n = j + m by omega] at this
  exact this
theorem same_seq (h13 : T 13 = some D__law_same) (n : Nat) (tp : Bool) (xs : List D) (hx : ∀ x ∈ xs, SameOK T n x) (hl : xs.length ≤ 1000000) : SameOK T (n + 1) (if tp = true then .tup xs else .lst xs) := fun k τ => by
  rw [show k + (n + 1) = (k + n) + 1 by omega, call_succ h13]
  refine run_val rfl ?_ rfl
  have hz1 := zipF_tup id id xs xs hl
  have hz2 := zipF_lst id id xs xs hl
  rw [List.map_id] at hz1 hz2
  have ha : bltF .all (.lst ((xs.zip xs).map fun p => D.bl true)) = some (.bl true) := by rw [all_map (fun _ => true)]; simp
  have hp : ∀ p ∈ xs.zip xs, p.1 = p.2 ∧ p.1 ∈ xs := fun p hp => by
    rw [← List.map_id xs, List.zip_map'] at hp
    obtain ⟨x, hx, rfl⟩ := List.mem_map.mp hp
    exact ⟨rfl, hx⟩
  cases tp
  all_goals
    simp [D__law_same, startE, isTys, isTy, hz1, hz2]
    rw [lcOut_map (F := fun _ => D.bl true)]
    rotate_left
    · intro p hpm
      obtain ⟨q1, q2⟩ := hp p hpm
      have := hx p.1 q2 k τ
      simp [lcTurn, wipeE, setTgt, ← q1, this]
    simp [ha]
theorem same_tup (h13 : T 13 = some D__law_same) {n : Nat} {xs : List D} (hx : ∀ x ∈ xs, SameOK T n x) (hl : xs.length ≤ 1000000) : SameOK T (n + 1) (.tup xs) := same_seq h13 n true xs hx hl
theorem same_lst (h13 : T 13 = some D__law_same) {n : Nat} {xs : List D} (hx : ∀ x ∈ xs, SameOK T n x) (hl : xs.length ≤ 1000000) : SameOK T (n + 1) (.lst xs) := same_seq h13 n false xs hx hl
theorem same_eA (h13 : T 13 = some D__law_same) (p : Int × Int) : SameOK T 2 (eA p) := same_tup h13 (fun x hx => by
  rcases List.mem_cons.mp hx with rfl | hx
  · exact same_int h13 _
  · rw [List.mem_singleton] at hx; subst hx; exact same_int h13 _) (by show 2 ≤ 1000000; decide)
theorem same_eAs (h13 : T 13 = some D__law_same) (as : Line) (hl : as.length ≤ 1000000) : SameOK T 3 (eAs as) := same_tup h13 (fun x hx => by
  obtain ⟨p, _, rfl⟩ := List.mem_map.mp hx
  exact same_eA h13 p) (by rw [List.length_map]; exact hl)
end M
set_option Elab.async false
set_option linter.all false
set_option maxRecDepth 100000
set_option maxHeartbeats 4000000
namespace M
open PySem
variable {T : Nat → Option Def}
structure HL (T : Nat → Option Def) : Prop extends HA T where
  h9 : T 9 = some D__law_take
  h11 : T 11 = some D__law_of
  h13 : T 13 = some D__law_same
  h50 : T 50 = some D__law_pick
  h51 : T 51 = some D__law_lists
  h54 : T 54 = some D__law_parting
  h55 : T 55 = some D__law_pairing
  h57 : T 57 = some D__law_arcs
  h78 : T 78 = some D__law_flat
  h79 : T 79 = some D__law_pairs
  h80 : T 80 = some D__law_do
  h81 : T 81 = some D__law_count
  h82 : T 82 = some D__law_all_lots
  h83 : T 83 = some D__law_most
theorem zip_tail_range (l : List Int) : (List.range (l.length - 1)).map (fun k => (l.getD k 0, l.getD (k + 1) 0)) = l.zip l.tail := by
  apply List.ext_getElem?
  intro i
  rw [List.getElem?_map]
  by_cases hi : i < l.length - 1
  · rw [List.getElem?_range hi, Option.map_some]
    have h1 : i < l.length := by omega
    have h2 : i + 1 < l.length := by omega
    symm
    rw [List.getElem?_zip_eq_some]
    refine ⟨?_, ?_⟩
    · simp [h1]
    · rw [List.getElem?_tail]
      simp [h2]
  · rw [List.getElem?_eq_none (by simp; omega), Option.map_none, List.getElem?_eq_none]
    rw [List.length_zip, List.length_tail]; omega
theorem range0_eq (n : Nat) : intRange 0 (n : Int) = (List.range n).map fun k : Nat => D.int (k : Int) := by
  unfold intRange
  rw [show ((n : Int) - 0).toNat = n by omega]
  congr 1
  funext k
  rw [Int.zero_add]
def bodyA : List MStmt := [.expr (.mut .extend (.var 1) (.lc (.tup (.cons (.idx (.var 2) (.var 3)) (.cons (.idx (.var 2) (.bin .add (.var 3) (.con (.int 1)))) .nil))) (.n 3) (.range1 (.bin .sub (.blt .len (.var 2)) (.con (.int 1)))) .none [("k", 3)]))]
theorem arcs_step (cl : Calls) (τ : Store) (r0 : D) (l : List Int) (acc : List D) (v : Option D) (hne : l ≠ []) (hl : l.length ≤ 100) (ha : acc.length ≤ 1000) :
    loopF cl τ.length (.n 2) bodyA (eI l) [some r0, some (.ref τ.length), v, none] (τ ++ [some acc]) = .nx [some r0, some (.ref τ.length), some (eI l), none] (τ ++ [some (acc ++ (l.zip l.tail).map eA)]) := by
  have hcg : ∀ xs : List D, cellGet (τ ++ [some xs]) τ.length = some xs := fun xs => by simp [cellGet]
  have hco : ∀ xs : List D, cellOf (τ ++ [some xs]) (.ref τ.length) = some τ.length := fun xs => by simp [cellOf, hcg]
  have hlp : 0 < l.length := List.length_pos_iff.mpr hne
  have hlen : (l.length : Int) - 1 = ((l.length - 1 : Nat) : Int) := by omega
  have hr : rOk1 ((l.length - 1 : Nat) : Int) := rOk1_of (by omega) (by omega)
  have hzl : ((l.zip l.tail).map eA).length ≤ 100 := by rw [List.length_map, List.length_zip]; omega
  have hm : ∀ ys : List D, ys = (l.zip l.tail).map eA → mutF τ.length τ.length acc (.lst ys) .extend = some (acc ++ ys, .non) := fun ys hy => by
    subst hy
    simp only [mutF]
    rw [if_pos ⟨by omega, List.all_eq_true.mpr fun x _ => by simp [mayPut]⟩]
  have hi : ∀ i : Nat, i < l.length → idxF (eI l) (.int (i : Int)) = some (.int (l.getD i 0)) := fun i h => by
    refine idx_natT ?_
    rw [List.getElem?_map]
    simp [h]
  rw [loopF_n]
  simp only [bodyA]
  have hle : bltF .len (eI l) = some (.int (l.length : Int)) := by simp [eI]
  simp [hco, hle]
  rw [hlen]
  simp [rIt1_ok hr, range0_eq]
  rw [lcOut_map (F := fun k : Nat => eA (l.getD k 0, l.getD (k + 1) 0))]
  rotate_left
  · intro i hi'
    have h1 : i < l.length - 1 := List.mem_range.mp hi'
    have e1 := hi i (by omega)
    have e2 := hi (i + 1) (by omega)
    have e3 : (((i + 1 : Nat)) : Int) = (i : Int) + 1 := by omega
    rw [e3] at e2
    simp only [lcTurn, wipeE, setTgt, ofO_some, Out.bind_ok, EC_none, if_true, E_tup, EA_cons, EA_nil, E_idx, E_var, E_bin, E_con]
    simp [e1, e2]
    rfl
  rw [show (List.range (l.length - 1)).map (fun k : Nat => eA (l.getD k 0, l.getD (k + 1) 0)) = (l.zip l.tail).map eA by rw [← zip_tail_range, List.map_map]; rfl]
  simp [hcg, mutArg, hm _ rfl]
theorem arcs_loop (cl : Calls) (τ : Store) (r0 : D) : ∀ (P : List (List Int)) (acc : List D) (v : Option D), (∀ l ∈ P, l ≠ [] ∧ l.length ≤ 100) → acc.length + P.flatten.length ≤ 1000 →
    ∃ v', forLoop none (loopF cl τ.length (.n 2) bodyA) (P.map eI) [some r0, some (.ref τ.length), v, none] (τ ++ [some acc]) = .nx [some r0, some (.ref τ.length), v', none] (τ ++ [some (acc ++ (rawArcs P).map eA)])
  | [], acc, v, _, _ => ⟨v, by simp [rawArcs]⟩
  | l :: P, acc, v, hP, hl => by
    have h1 := hP l List.mem_cons_self
    rw [List.flatten_cons, List.length_append] at hl
    have hz : ((l.zip l.tail).map eA).length ≤ l.length := by rw [List.length_map, List.length_zip]; omega
    have hst := arcs_step cl τ r0 l acc v h1.1 h1.2 (by omega)
    obtain ⟨v', ih⟩ := arcs_loop cl τ r0 P (acc ++ (l.zip l.tail).map eA) (some (eI l)) (fun x hx => hP x (List.mem_cons_of_mem _ hx)) (by rw [List.length_append]; omega)
    refine ⟨v', ?_⟩
    rw [List.map_cons, forLoop_nx (w := none) hst trivial, ih]
    unfold rawArcs
    rw [List.flatMap_cons, List.map_append, List.append_assoc]
theorem s_law_arcs (h : HL T) (k : Nat) {m : Nat} (P : List (List Int)) (τ : Store) (g : Good m P) (hm : m ≤ 30) : M.call T (k + 1) 57 [eP P] τ = .ok (.lst ((arcsOf P).map eA), τ) := by
  have hsm : ∀ l ∈ P, l ≠ [] ∧ l.length ≤ 100 := fun l hl => ⟨g.ne l hl, by have := len_leS hl; rw [g.len] at this; omega⟩
  obtain ⟨v', e⟩ := arcs_loop (M.call T k) τ (eP P) P [] none hsm (by rw [g.len]; simp; omega)
  have hcell : ∀ xs : List D, hd (τ ++ [some xs]) (.ref τ.length) = .lst xs := fun xs => hd_ref (get_app τ _)
  have hso : bltF .sorted (.lst ((rawArcs P).map eA)) = some (.lst ((arcsOf P).map eA)) := sort_A _
  have e0 : eP P = .tup (P.map eI) := rfl
  rw [call_succ h.h57]
  have main : SL (M.call T k) τ.length D__law_arcs.body (startE D__law_arcs.N [eP P]) τ = .rt (.lst ((arcsOf P).map eA)) (τ ++ [some ((rawArcs P).map eA)]) := by
    simp only [D__law_arcs, startE]
    simp [e0]
    simp only [bodyA, e0, List.nil_append] at e
    rw [e]
    simp [hcell, hso]
  unfold runDef
  rw [if_pos (by rfl), main]
  simp only [fin_nr (show noRef (.lst ((arcsOf P).map eA)) = true by simp only [nr_lst]; exact nrs_map nr_eA), take_app]
theorem pairs_range (full : Line) : ∀ (xs : Line) (k : Nat), full.drop k = xs → ((List.range' k xs.length).flatMap fun a => (full.drop (a + 1)).map fun y => (full.getD a (0, 0), y)) = pairsL xs
  | [], k, _ => rfl
  | x :: xs, k, h => by
    have h2 : full.drop (k + 1) = xs := by rw [← List.drop_drop, h]; rfl
    have h3 : full.getD k (0, 0) = x := by
      have : full[k]? = some x := by
        have := congrArg (fun l => l[0]?) h
        simpa [List.getElem?_drop] using this
      simp [this]
    rw [List.length_cons, List.range'_succ, List.flatMap_cons, pairs_range full xs (k + 1) h2]
    simp only [h2, h3, pairsL]
theorem s_law_pairs (h : HL T) (k : Nat) (tp : Bool) (as : Line) (τ : Store) (hl : as.length ≤ 100) : M.call T (k + 2) 79 [if tp = true then eAs as else .lst (as.map eA)] τ = .ok (.lst ((pairsL as).map ePr), τ) := by
  rw [call_succ h.h79]
  refine run_val rfl ?_ (by simp only [nr_lst]; exact nrs_map fun x => rfl)
  let F : Nat → List ((Int × Int) × (Int × Int)) := fun a => (as.drop (a + 1)).map fun y => (as.getD a (0, 0), y)
  have hF : (List.range as.length).flatMap F = pairsL as := by
    have := pairs_range as as 0 rfl
    rw [← List.range_eq_range'] at this
    exact this
  have hpl : (pairsL as).length ≤ 1000000 := by
    have := pairs_len as
    have : as.length * as.length ≤ 100 * 100 := Nat.mul_le_mul hl hl
    omega
  have hfl : ((List.range as.length).map fun a => (F a).map ePr).flatten = (pairsL as).map ePr := by
    rw [← hF, List.flatMap_def, List.map_flatten, List.map_map]; rfl
  have hj := s_flat h.h78 k ((List.range as.length).map fun a => (F a).map ePr) τ (by rw [hfl, List.length_map]; exact hpl) (by rw [hfl]; exact nrs_map fun x => rfl)
  rw [hfl, List.map_map] at hj
  have hr : rOk1 (as.length : Int) := rOk1_of (by omega) (by omega)
  have hidx : ∀ i : Nat, i < as.length → ∀ d : D, d = (if tp = true then eAs as else .lst (as.map eA)) → idxF d (.int (i : Int)) = some (eA (as.getD i (0, 0))) := fun i hi d hd => by
    have : (as.map eA)[i]? = some (eA (as.getD i (0, 0))) := by rw [List.getElem?_map]; simp [hi]
    rw [hd]
    cases tp
    · exact idx_nat this
    · exact idx_natT this
  have hle : ∀ d : D, d = (if tp = true then eAs as else .lst (as.map eA)) → bltF .len d = some (.int (as.length : Int)) := fun d hd => by
    rw [hd]; cases tp <;> simp [eAs]
  have hhd : ∀ (τ : Store), hd τ (if tp = true then eAs as else .lst (as.map eA)) = (if tp = true then eAs as else .lst (as.map eA)) := fun τ => by cases tp <;> rfl
  generalize hd0 : (if tp = true then eAs as else .lst (as.map eA)) = d0 at *
  simp only [D__law_pairs, startE]
  simp [hhd, hle d0 rfl, rIt1_ok hr, range0_eq]
  rw [lcOut_map (F := D.lst ∘ fun a => (F a).map ePr)]
  rotate_left
  · intro a ha
    have ha := List.mem_range.mp ha
    have hr2 : rOk2 ((a : Int) + 1) (as.length : Int) := rOk2_of (by omega) (by omega) (by omega) (by omega)
    have hre : intRange ((a : Int) + 1) (as.length : Int) = (List.range (as.length - (a + 1))).map fun i : Nat => D.int (((a + 1 + i : Nat)) : Int) := by
      unfold intRange
      rw [show ((as.length : Int) - ((a : Int) + 1)).toNat = as.length - (a + 1) by omega]
      rfl
    simp only [lcTurn, wipeE, setTgt, ofO_some, Out.bind_ok, EC_none, if_true, E_lc, EI_range2, E_bin, E_var, E_con, E_blt]
    simp [hhd, hle d0 rfl, rIt_ok hr2, hre]
    rw [lcOut_map (F := fun i : Nat => ePr (as.getD a (0, 0), as.getD (a + 1 + i) (0, 0)))]
    rotate_left
    · intro i hi
      have hi := List.mem_range.mp hi
      have e1 := hidx a ha d0 rfl
      have e2 := hidx (a + 1 + i) (by omega) d0 rfl
      rw [show (((a + 1 + i : Nat)) : Int) = (a : Int) + 1 + (i : Int) by omega] at e2
      simp only [lcTurn, wipeE, setTgt, ofO_some, Out.bind_ok, EC_none, if_true, E_tup, EA_cons, EA_nil, E_idx, E_var, E_bin, E_con]
      simp [hhd, e1, e2]
      rfl
    simp only [Out.bind_ok]
    congr 4
    show _ = (F a).map ePr
    simp only [F]
    rw [List.map_map]
    apply List.ext_getElem?
    intro i
    rw [List.getElem?_map, List.getElem?_map, List.getElem?_drop]
    by_cases hi : i < as.length - (a + 1)
    · rw [List.getElem?_range hi]
      have : a + 1 + i < as.length := by omega
      simp [this]
    · rw [List.getElem?_eq_none (by simp; omega), List.getElem?_eq_none (by omega)]; rfl
  simp [hj]
end M
set_option Elab.async false
set_option linter.all false
set_option maxRecDepth 100000
set_option maxHeartbeats 4000000
namespace M
open PySem
variable {T : Nat → Option Def}
theorem add_pq (p q : Int × Int) : binF .add (eA p) (eA q) = some (.tup ([p.1, p.2, q.1, q.2].map D.int)) := by
  simp [eA, binF]
theorem set_pq (is : List Int) (h : is.length ≤ 1000) : lensetF (.tup (is.map D.int)) = some (.int (dedupI is).length) := by
  have hi : ints? (is.map D.int) = some is := by
    have := ints_map (fun i : Int => i) is
    rw [List.map_id'] at this
    exact this
  simp only [lensetF, hi, Option.bind_some, if_pos h]
theorem sort_pq (is : List Int) : bltF .sorted (.tup (is.map D.int)) = some (.lst ((is.mergeSort fun a b => decide (a ≤ b)).map D.int)) := sortF_ints is
theorem do_few (h : HL T) (k : Nat) (p q : Int × Int) (way : Int) (τ : Store) (hd : (dedupI [p.1, p.2, q.1, q.2]).length < 4) : M.call T (k + 1) 80 [eA p, eA q, .int way] τ = .ok (.bl false, τ) := by
  rw [call_succ h.h80]
  refine run_val rfl ?_ rfl
  have hs := set_pq [p.1, p.2, q.1, q.2] (by show 4 ≤ 1000; decide)
  have hlt : ((dedupI [p.1, p.2, q.1, q.2]).length : Int) < 4 := by omega
  simp only [D__law_do, startE]
  simp [add_pq, -List.map_cons, hs, hlt]
theorem do_eval (h : HL T) (k : Nat) (p q : Int × Int) (way : Int) (τ : Store) (r0 r1 r2 r3 : Int) (hd : (dedupI [p.1, p.2, q.1, q.2]).length = 4) (hs4 : [p.1, p.2, q.1, q.2].mergeSort (fun a b => decide (a ≤ b)) = [r0, r1, r2, r3]) (hpq : p.1 < q.1) :
    M.call T (k + 1) 80 [eA p, eA q, .int way] τ = .ok (.bl (decide ((p, q) = if way = 1 then ((r0, r2), (r1, r3)) else ((r0, r3), (r1, r2)))), τ) := by
  rw [call_succ h.h80]
  refine run_val rfl ?_ rfl
  have hs := set_pq [p.1, p.2, q.1, q.2] (by show 4 ≤ 1000; decide)
  have hnl : ¬ (((dedupI [p.1, p.2, q.1, q.2]).length : Int) < 4) := by omega
  have hso := sort_pq [p.1, p.2, q.1, q.2]
  rw [hs4] at hso
  have hE : Eqv 1 eA pA := ord_A.toEqv
  have heq := fun x y => (hE.pair hE).peq (by decide) x y
  have i0 : ∀ a b c d : D, idxF (.lst [a, b, c, d]) (.int 0) = some a := fun _ _ _ _ => rfl
  have i1 : ∀ a b c d : D, idxF (.lst [a, b, c, d]) (.int 1) = some b := fun _ _ _ _ => rfl
  have i2 : ∀ a b c d : D, idxF (.lst [a, b, c, d]) (.int 2) = some c := fun _ _ _ _ => rfl
  have i3 : ∀ a b c d : D, idxF (.lst [a, b, c, d]) (.int 3) = some d := fun _ _ _ _ => rfl
  simp only [D__law_do, startE]
  simp [add_pq, -List.map_cons, hs, hnl]
  simp [hpq, setTgt, add_pq, -List.map_cons, hso]
  by_cases hw : way = 1
  · have e := heq (p, q) ((r0, r2), (r1, r3))
    simp only [prE, eA] at e
    simp [hw, i0, i1, i2, i3]
    simp only [eA]
    rw [e]
    simp
  · have e := heq (p, q) ((r0, r3), (r1, r2))
    simp only [prE, eA] at e
    simp [hw, i0, i1, i2, i3]
    simp only [eA]
    rw [e]
    simp
theorem dedup_lenS : ∀ l : List Int, (dedupI l).length ≤ l.length
  | [] => Nat.le_refl _
  | x :: l => by
    have := dedup_lenS l
    unfold dedupI
    split
    · rw [List.length_cons]; omega
    · rw [List.length_cons, List.length_cons]; omega
theorem dedup_few {a : Int} {l m : List Int} (h : dedupI l = dedupI m) (hl : m.length ≤ 2) : (dedupI (a :: l)).length < 4 := by
  have h2 := dedup_lenS m
  unfold dedupI
  split
  · rw [h]; omega
  · rw [List.length_cons, h]; omega
def lawDo (way : Int) (p q : Int × Int) : Bool := if way = 1 then decide (q.1 < p.2) && decide (p.2 < q.2) else decide (q.2 < p.2)
theorem s_do (h : HL T) (k : Nat) (p q : Int × Int) (way : Int) (τ : Store) (hpq : p.1 < q.1) (hp : p.1 < p.2) (hq : q.1 < q.2) : M.call T (k + 1) 80 [eA p, eA q, .int way] τ = .ok (.bl (lawDo way p q), τ) := by
  obtain ⟨a, b⟩ := p
  obtain ⟨c, d⟩ := q
  simp only at hpq hp hq
  have pw : ∀ {x y z w : Int}, x < y → y < z → z < w → [x, y, z, w].Pairwise (· ≤ ·) := fun h1 h2 h3 => by
    simp only [List.pairwise_cons, List.mem_cons, List.not_mem_nil, or_false, forall_eq_or_imp, forall_eq, List.Pairwise.nil, false_imp_iff, implies_true, and_true]
    omega
  have dd : ∀ {x y z w : Int}, x ≠ y → x ≠ z → x ≠ w → y ≠ z → y ≠ w → z ≠ w → (dedupI [x, y, z, w]).length = 4 := fun h1 h2 h3 h4 h5 h6 => by
    simp [dedupI, h1, h2, h3, h4, h5, h6]
  rcases Int.lt_trichotomy b c with hbc | hbc | hbc
  · rw [do_eval h k (a, b) (c, d) way τ a b c d (dd (by omega) (by omega) (by omega) (by omega) (by omega) (by omega)) (sort_eq (List.Perm.refl _) (pw hp hbc hq)) hpq]
    congr 3
    unfold lawDo
    by_cases hw : way = 1
    · rw [if_pos hw, if_pos hw, decide_eq_false (by simp; omega), decide_eq_false (by simp; omega)]; rfl
    · rw [if_neg hw, if_neg hw, decide_eq_false (by simp; omega), decide_eq_false (by simp; omega)]
  · subst hbc
    rw [do_few h k (a, b) (b, d) way τ (dedup_few (m := [b, d]) (by simp [dedupI]) (Nat.le_refl _))]
    congr 3
    unfold lawDo
    by_cases hw : way = 1
    · rw [if_pos hw, decide_eq_false (by simp)]; rfl
    · rw [if_neg hw, decide_eq_false (by simp; omega)]
  · rcases Int.lt_trichotomy b d with hbd | hbd | hbd
    · rw [do_eval h k (a, b) (c, d) way τ a c b d (dd (by omega) (by omega) (by omega) (by omega) (by omega) (by omega)) (sort_eq (List.Perm.cons a (List.Perm.swap c b [d])) (pw hpq hbc hbd)) hpq]
      congr 3
      unfold lawDo
      by_cases hw : way = 1
      · rw [if_pos hw, if_pos hw, decide_eq_true rfl, decide_eq_true hbc, decide_eq_true hbd]; rfl
      · rw [if_neg hw, if_neg hw, decide_eq_false (by simp; omega), decide_eq_false (by simp; omega)]
    · subst hbd
      rw [do_few h k (a, b) (c, b) way τ (dedup_few (m := [c, b]) (by simp [dedupI]) (Nat.le_refl _))]
      congr 3
      unfold lawDo
      by_cases hw : way = 1
      · rw [if_pos hw, decide_eq_false (show ¬ (b < b) by omega), Bool.and_false]
      · rw [if_neg hw, decide_eq_false (by simp)]
    · have hperm : [a, b, c, d].Perm [a, c, d, b] := List.Perm.cons a ((List.Perm.swap c b [d]).trans (List.Perm.cons c (List.Perm.swap d b [])))
      rw [do_eval h k (a, b) (c, d) way τ a c d b (dd (by omega) (by omega) (by omega) (by omega) (by omega) (by omega)) (sort_eq hperm (pw hpq hq hbd)) hpq]
      congr 3
      unfold lawDo
      by_cases hw : way = 1
      · rw [if_pos hw, if_pos hw, decide_eq_false (by simp; omega), decide_eq_false (show ¬ (b < d) by omega), Bool.and_false]
      · rw [if_neg hw, if_neg hw, decide_eq_true rfl, decide_eq_true hbd]
end M
set_option Elab.async false
set_option linter.all false
set_option maxRecDepth 100000
set_option maxHeartbeats 4000000
namespace M
open PySem
variable {T : Nat → Option Def}
/-- arcs in order -/
structure Arcs (m : Nat) (A : Line) : Prop where
  srt : A.Pairwise fun p q => p.1 < q.1
  val : ∀ p ∈ A, 1 ≤ p.1 ∧ p.1 < p.2 ∧ p.2 ≤ (m : Int)
  rts : (A.map (·.2)).Nodup
theorem pairs_mem {α : Type} {R : α → α → Prop} : ∀ {l : List α}, l.Pairwise R → ∀ x ∈ pairsL l, R x.1 x.2 ∧ x.1 ∈ l ∧ x.2 ∈ l
  | [], _, x, hx => by cases hx
  | a :: l, h, x, hx => by
    rw [List.pairwise_cons] at h
    simp only [pairsL] at hx
    rcases List.mem_append.mp hx with hx | hx
    · obtain ⟨y, hy, rfl⟩ := List.mem_map.mp hx
      exact ⟨h.1 y hy, List.mem_cons_self, List.mem_cons_of_mem _ hy⟩
    · obtain ⟨h1, h2, h3⟩ := pairs_mem h.2 x hx
      exact ⟨h1, List.mem_cons_of_mem _ h2, List.mem_cons_of_mem _ h3⟩
theorem s_law_count (h : HL T) (k : Nat) {m : Nat} (P : List (List Int)) (way : Int) (τ : Store) (g : Good m P) (hm : m ≤ 30) (hA : Arcs m (arcsOf P)) : M.call T (k + 3) 81 [eP P, .int way] τ = .ok (.int ((pairsL (arcsOf P)).countP fun x => lawDo way x.1 x.2), τ) := by
  have hl := arcs_len g hm
  rw [call_succ h.h81]
  refine run_val rfl ?_ rfl
  have hp := s_law_pairs h k false (arcsOf P) τ (by omega)
  simp at hp
  simp only [D__law_count, startE]
  simp [s_law_arcs h (k + 1) P τ g hm, hp]
  rw [lcOut_filter (F := fun _ => D.int 1) (p := fun x => lawDo way x.1 x.2)]
  rotate_left
  · intro x hx
    obtain ⟨h1, h2, h3⟩ := pairs_mem hA.srt x hx
    have e := s_do h (k + 1) x.1 x.2 way τ h1 (hA.val _ h2).2.1 (hA.val _ h3).2.1
    simp [lcTurn, wipeE, setTgt, ePr, e]
    cases lawDo way x.1 x.2 <;> simp
  simp [List.countP_eq_length_filter]
def lotStep (way : Int) (found : List Line) (own : Int × Int) : List Line := found ++ (found.filter fun its => its.all fun one => lawDo way one own).map (· ++ [own])
def lots (way : Int) (A : Line) : List Line := A.foldl (lotStep way) [[]]
def bodyO : List MStmt := [.asg (.n 2) (.bin .add (.var 2) (.lc (.bin .add (.var 4) (.tup (.cons (.var 3) .nil))) (.n 4) (.over (.var 2)) (.some (.cmp .eq (.lc (.con (.int 1)) (.n 5) (.over (.var 4)) (.some (.bnot (.call 80 (.cons (.var 5) (.cons (.var 3) (.cons (.var 1) .nil)))))) [("one", 5)]) (.lst .nil))) [("its", 4)]))]
theorem lot_step (h : HL T) (k : Nat) (b : Nat) (τ : Store) (r0 : D) (way : Int) (found : List Line) (own : Int × Int) (o : Option D) (hq : own.1 < own.2) (hf : ∀ its ∈ found, its.length ≤ 1000 ∧ ∀ one ∈ its, one.1 < own.1 ∧ one.1 < one.2) (hl : found.length ≤ 400000) :
    loopF (M.call T (k + 1)) b (.n 3) bodyO (eA own) [some r0, some (.int way), some (.lst (found.map eAs)), o, none, none] τ = .nx [some r0, some (.int way), some (.lst ((lotStep way found own).map eAs)), some (eA own), none, none] τ := by
  have hone : D.tup [eA own] = eAs [own] := rfl
  have hE : Eqv 1 (lstE D.int) (lstP pI) := eqv_int.lst
  rw [loopF_n]
  simp only [bodyO]
  simp
  rw [lcOut_filter (e := eAs) (F := fun l => eAs (l ++ [own])) (p := fun its => its.all fun one => lawDo way one own)]
  rotate_left
  · intro its hi
    obtain ⟨hil, hio⟩ := hf its hi
    have hit : items (eAs its) = some (its.map eA) := rfl
    simp [lcTurn, wipeE, setTgt, hit]
    rw [lcOut_filter (e := eA) (F := fun _ => D.int 1) (p := fun one => !lawDo way one own)]
    rotate_left
    · intro one h1
      obtain ⟨q1, q2⟩ := hio one h1
      have e := s_do h k one own way τ q1 q2 hq
      simp [lcTurn, wipeE, setTgt, e]
      cases lawDo way one own <;> simp
    have hpe := hE.peq (by decide) ((its.filter fun one => !lawDo way one own).map fun _ => (1 : Int)) []
    have e1 : lstE D.int ((its.filter fun one => !lawDo way one own).map fun _ => (1 : Int)) = .lst ((its.filter fun one => !lawDo way one own).map fun _ => D.int 1) := by
      unfold lstE; rw [List.map_map]; rfl
    rw [e1] at hpe
    have e2 : decide (((its.filter fun one => !lawDo way one own).map fun _ => (1 : Int)) = []) = its.all fun one => lawDo way one own := by
      rw [Bool.eq_iff_iff, decide_eq_true_eq, List.map_eq_nil_iff, List.filter_eq_nil_iff, List.all_eq_true]
      simp
    rw [e2] at hpe
    have hpe : peq (.lst ((its.filter fun one => !lawDo way one own).map fun _ => D.int 1)) (.lst []) = some (its.all fun one => lawDo way one own) := hpe
    simp [hpe]
    have hadd : binF .add (eAs its) (.tup [eA own]) = some (eAs (its ++ [own])) := by
      rw [hone]; exact add_eAs (by rw [List.length_singleton]; omega)
    cases its.all fun one => lawDo way one own <;> simp [hadd]
  have hfl : (found.filter fun its => its.all fun one => lawDo way one own).length ≤ found.length := List.length_filter_le _ _
  have hadd2 : binF .add (.lst (found.map eAs)) (.lst ((found.filter fun its => its.all fun one => lawDo way one own).map fun l => eAs (l ++ [own]))) = some (.lst ((lotStep way found own).map eAs)) := by
    have := add_lines (x := found) (y := (found.filter fun its => its.all fun one => lawDo way one own).map (· ++ [own])) (by rw [List.length_map]; omega)
    rw [List.map_map] at this
    exact this
  simp [hadd2]
theorem lot_loop (h : HL T) (k : Nat) (b : Nat) (τ : Store) (r0 : D) (way : Int) : ∀ (A : Line) (found : List Line) (o : Option D) (n : Nat), (A.Pairwise fun p q => p.1 < q.1) → (∀ p ∈ A, p.1 < p.2) → (∀ its ∈ found, its.length ≤ n ∧ ∀ one ∈ its, one.1 < one.2 ∧ ∀ p ∈ A, one.1 < p.1) → found.length * 2 ^ A.length ≤ 400000 → n + A.length ≤ 1000 →
    ∃ o', forLoop none (loopF (M.call T (k + 1)) b (.n 3) bodyO) (A.map eA) [some r0, some (.int way), some (.lst (found.map eAs)), o, none, none] τ = .nx [some r0, some (.int way), some (.lst ((A.foldl (lotStep way) found).map eAs)), o', none, none] τ
  | [], found, o, n, _, _, _, _, _ => ⟨o, by simp⟩
  | own :: A, found, o, n, hs, hv, hf, hl, hn => by
    rw [List.pairwise_cons] at hs
    rw [List.length_cons] at hl hn
    have h2 : 2 ^ (A.length + 1) = 2 * 2 ^ A.length := by rw [Nat.pow_succ, Nat.mul_comm]
    have h1 : 1 ≤ 2 ^ A.length := Nat.one_le_two_pow
    have hst := lot_step h k b τ r0 way found own o (hv _ List.mem_cons_self) (fun its hi => ⟨by have := (hf its hi).1; omega, fun one ho => ⟨((hf its hi).2 one ho).2 own List.mem_cons_self, ((hf its hi).2 one ho).1⟩⟩) (by
      have : found.length * 1 ≤ found.length * 2 ^ (A.length + 1) := Nat.mul_le_mul_left _ Nat.one_le_two_pow
      omega)
    have hfl : (lotStep way found own).length ≤ 2 * found.length := by
      unfold lotStep
      rw [List.length_append, List.length_map]
      have := List.length_filter_le (fun its : Line => its.all fun one => lawDo way one own) found
      omega
    obtain ⟨o', ih⟩ := lot_loop h k b τ r0 way A (lotStep way found own) (some (eA own)) (n + 1) hs.2 (fun p hp => hv p (List.mem_cons_of_mem _ hp)) (fun its hi => by
      unfold lotStep at hi
      rcases List.mem_append.mp hi with hi | hi
      · exact ⟨by have := (hf its hi).1; omega, fun one ho => ⟨((hf its hi).2 one ho).1, fun p hp => ((hf its hi).2 one ho).2 p (List.mem_cons_of_mem _ hp)⟩⟩
      · obtain ⟨l, hl', rfl⟩ := List.mem_map.mp hi
        have hl' := (List.mem_filter.mp hl').1
        refine ⟨by have := (hf l hl').1; rw [List.length_append, List.length_singleton]; omega, fun one ho => ?_⟩
        rcases List.mem_append.mp ho with ho | ho
        · exact ⟨((hf l hl').2 one ho).1, fun p hp => ((hf l hl').2 one ho).2 p (List.mem_cons_of_mem _ hp)⟩
        · rw [List.mem_singleton] at ho
          subst ho
          exact ⟨hv _ List.mem_cons_self, fun p hp => hs.1 p hp⟩) (by
      have : (lotStep way found own).length * 2 ^ A.length ≤ 2 * found.length * 2 ^ A.length := Nat.mul_le_mul_right _ hfl
      have e : 2 * found.length * 2 ^ A.length = found.length * 2 ^ (A.length + 1) := by rw [h2]; rw [Nat.mul_comm 2 found.length, Nat.mul_assoc]
      omega) (by omega)
    refine ⟨o', ?_⟩
    rw [List.map_cons, forLoop_nx (w := none) hst trivial, ih, List.foldl_cons]
theorem s_all_lots (h : HL T) (k : Nat) {m : Nat} (P : List (List Int)) (way : Int) (τ : Store) (g : Good m P) (hm : m ≤ 30) (hA : Arcs m (arcsOf P)) (hl : (arcsOf P).length ≤ 18) : M.call T (k + 2) 82 [eP P, .int way] τ = .ok (.lst ((lots way (arcsOf P)).map eAs), τ) := by
  rw [call_succ h.h82]
  refine run_val rfl ?_ (by simp only [nr_lst]; exact nrs_map nr_eAs)
  have hpow : 2 ^ (arcsOf P).length ≤ 2 ^ 18 := Nat.pow_le_pow_right (by decide) hl
  obtain ⟨o', e⟩ := lot_loop h k τ.length τ (eP P) way (arcsOf P) [[]] none 0 hA.srt (fun p hp => (hA.val p hp).2.1) (fun its hi => by
    rw [List.mem_singleton] at hi; subst hi
    exact ⟨Nat.le_refl _, fun one ho => by cases ho⟩) (by rw [List.length_singleton, Nat.one_mul]; have : (2 : Nat) ^ 18 = 262144 := rfl; omega) (by omega)
  simp only [D__law_all_lots, startE]
  simp [s_law_arcs h k P τ g hm]
  simp only [bodyO] at e
  have e1 : ([[]] : List Line).map eAs = [.tup []] := rfl
  rw [e1] at e
  rw [e]
  simp [lots]
end M
set_option Elab.async false
set_option linter.all false
set_option maxRecDepth 100000
set_option maxHeartbeats 4000000
namespace M
open PySem
variable {T : Nat → Option Def}
theorem maxL_mem {α : Type} {lt : α → α → Bool} : ∀ (xs : List α) (x : α), maxL lt x xs ∈ x :: xs
  | [], x => List.mem_cons_self
  | y :: ys, x => by
    show maxL lt (if lt x y = true then y else x) ys ∈ _
    have := maxL_mem (lt := lt) ys (if lt x y = true then y else x)
    rcases List.mem_cons.mp this with h | h
    · rw [h]; split
      · exact List.mem_cons_of_mem _ List.mem_cons_self
      · exact List.mem_cons_self
    · exact List.mem_cons_of_mem _ (List.mem_cons_of_mem _ h)
def ltI (a b : Int) : Bool := decide (a < b)
theorem maxI_ge : ∀ (xs : List Int) (x y : Int), y ∈ x :: xs → y ≤ maxL ltI x xs
  | [], x, y, hy => by rw [List.mem_singleton] at hy; subst hy; exact Int.le_refl _
  | z :: zs, x, y, hy => by
    show y ≤ maxL ltI (if ltI x z = true then z else x) zs
    have ih := maxI_ge zs (if ltI x z = true then z else x)
    have h1 := ih _ List.mem_cons_self
    rcases List.mem_cons.mp hy with rfl | hy
    · refine Int.le_trans ?_ h1
      split
      · rename_i e; simp [ltI] at e; omega
      · exact Int.le_refl _
    · rcases List.mem_cons.mp hy with rfl | hy
      · refine Int.le_trans ?_ h1
        split
        · exact Int.le_refl _
        · rename_i e; simp [ltI] at e; omega
      · exact ih y (List.mem_cons_of_mem _ hy)
/-- the least of the longest -/
def Best (S : Line → Prop) (l : Line) : Prop := S l ∧ ∀ y, S y → ltK (keyL y) (keyL l) = false
theorem Best.uniq {S : Line → Prop} {x y : Line} (h : Best S x) (k : Best S y) : x = y := by
  have := lord_K.tri (keyL x) (keyL y) (k.2 x h.1) (h.2 y k.1)
  exact congrArg Prod.snd this
theorem lots_ne (way : Int) (A : Line) : lots way A ≠ [] := by
  unfold lots
  have key : ∀ (A : Line) (f : List Line), f ≠ [] → A.foldl (lotStep way) f ≠ [] := by
    intro A
    induction A with
    | nil => intro f h; exact h
    | cons a A ih =>
      intro f h
      rw [List.foldl_cons]
      refine ih _ ?_
      unfold lotStep
      intro e
      exact h (List.append_eq_nil_iff.mp e).1
  exact key A _ (by simp)
theorem s_law_most (h : HL T) (k : Nat) {m : Nat} (P : List (List Int)) (way : Int) (τ : Store) (g : Good m P) (hm : m ≤ 30) (hA : Arcs m (arcsOf P)) (hl : (arcsOf P).length ≤ 18) :
    ∃ x, Best (· ∈ lots way (arcsOf P)) x ∧ M.call T (k + 3) 83 [eP P, .int way] τ = .ok (eAs x, τ) := by
  cases hL : lots way (arcsOf P) with
  | nil => exact absurd hL (lots_ne _ _)
  | cons l0 ls =>
    have hall := s_all_lots h k P way τ g hm hA hl
    rw [hL] at hall
    have hmax := max_map ord_int (by decide) (fun a => rfl) (l0.length : Int) (ls.map fun l => (l.length : Int))
    let long := maxL ltI (l0.length : Int) (ls.map fun l => (l.length : Int))
    have hlm : long ∈ (l0.length : Int) :: ls.map fun l => (l.length : Int) := maxL_mem _ _
    have hF : (l0 :: ls).filter (fun l => decide ((l.length : Int) = long)) ≠ [] := by
      rw [← List.map_cons (f := fun l : Line => (l.length : Int))] at hlm
      obtain ⟨l, h1, h2⟩ := List.mem_map.mp hlm
      exact List.ne_nil_of_mem (List.mem_filter.mpr ⟨h1, decide_eq_true h2⟩)
    cases hF2 : (l0 :: ls).filter (fun l => decide ((l.length : Int) = long)) with
    | nil => exact absurd hF2 hF
    | cons x0 xs =>
      have hmin := min_map (ord_A.tup) (by decide) (fun a => rfl) x0 xs
      have hmem := minL_mem (lt := ltL ltA) xs x0
      have hle := minL_le lord_A.l xs x0
      refine ⟨minL (ltL ltA) x0 xs, ⟨?_, fun y hy => ?_⟩, ?_⟩
      · rw [← hF2] at hmem
        exact (List.mem_filter.mp hmem).1
      · rw [← hF2] at hmem
        have hx := of_decide_eq_true (List.mem_filter.mp hmem).2
        have hyl : (y.length : Int) ≤ long := by
          refine maxI_ge _ _ _ ?_
          rw [← List.map_cons (f := fun l : Line => (l.length : Int))]
          exact List.mem_map_of_mem hy
        unfold ltK ltPr keyL
        simp only
        by_cases e : (y.length : Int) = long
        · rw [if_pos (by rw [e, hx])]
          exact hle y (by rw [← hF2]; exact List.mem_filter.mpr ⟨hy, decide_eq_true e⟩)
        · rw [if_neg (by rw [hx]; omega), decide_eq_false (by rw [hx]; omega)]
      · rw [call_succ h.h83]
        refine run_val rfl ?_ (nr_eAs _)
        simp only [D__law_most, startE]
        simp [hall]
        rw [← List.map_cons (f := eAs)]
        rw [lcOut_map (F := fun l : Line => D.int (l.length : Int))]
        rotate_left
        · intro l hl
          simp [lcTurn, wipeE, setTgt]
          simp [eAs]
        have hmax' : bltF .max (.lst ((l0 :: ls).map fun l : Line => D.int (l.length : Int))) = some (.int long) := by
          have e : (l0 :: ls).map (fun l : Line => D.int (l.length : Int)) = ((l0.length : Int) :: ls.map fun l => (l.length : Int)).map D.int := by
            rw [List.map_cons, List.map_cons, List.map_map]; rfl
          rw [e]; exact hmax
        simp only [Out.bind_ok, hd_lst, hmax', ofO_some]
        simp
        rw [← List.map_cons (f := eAs)]
        rw [lcOut_filter (F := eAs) (p := fun l => decide ((l.length : Int) = long))]
        rotate_left
        · intro l hl
          have hle : bltF .len (eAs l) = some (.int (l.length : Int)) := by simp [eAs]
          simp [lcTurn, wipeE, setTgt, hle]
          by_cases e : (l.length : Int) = long <;> simp [e]
        rw [hF2]
        have hmin' : bltF .min (.lst ((x0 :: xs).map eAs)) = some (eAs (minL (ltL ltA) x0 xs)) := hmin
        simp only [Out.bind_ok, hd_lst, hmin', ofO_some]
        simp
/-! ### drawing -/
theorem eraseIdx_perm {α : Type} : ∀ (l : List α) (i : Nat) (h : i < l.length), (l[i] :: l.eraseIdx i).Perm l
  | x :: l, 0, h => List.Perm.refl _
  | x :: l, i + 1, h => by
    have hi : i < l.length := by simpa using h
    have ih := eraseIdx_perm l i hi
    show (l[i] :: x :: l.eraseIdx i).Perm (x :: l)
    exact (List.Perm.swap x l[i] _).trans (List.Perm.cons x ih)
theorem pop_ok {base n : Nat} {xs : List D} {i : Int} {v : Nat} {d : D} (hb : bigI i = true) (hs : seqIndex? i xs.length = some v) (hd : xs[v]? = some d) : mutF base n xs (.int i) .popAt = some (xs.eraseIdx v, d) := by
  simp only [mutF, if_pos hb, hs, Option.bind_some, hd]
theorem big_nat {i : Int} {v : Nat} (h : i = (v : Int)) (hv : v ≤ 1000000) : bigI i = true := by unfold bigI; rw [Bool.and_eq_true, decide_eq_true_eq, decide_eq_true_eq]; omega
theorem seq_nat {i : Int} {v n : Nat} (h : i = (v : Int)) (hv : v < n) : seqIndex? i n = some v := by
  unfold seqIndex?
  have h1 : ¬ (i < 0) := by omega
  have h2 : 0 ≤ i := by omega
  have h3 : i < (n : Int) := by omega
  have h4 : i.toNat = v := by omega
  simp [h1, h2, h3, h4]
theorem pick_loop (h : HL T) (k : Nat) (goods : List D) (cnt : D) (hg : goods.length ≤ 400000) (hr : ∀ x ∈ goods, noRef x = true) : ∀ (n : Nat) (items : List D) (c : Nat) (t pool found : List D) (o : Option D), items.length = n → n ≤ pool.length → (found ++ pool).Perm goods → TinOK c t → c + n ≤ 1000000 →
    ∃ (t' pool' found' : List D) (o' : Option D), forLoop none (loopF (M.call T (k + 1)) 1 (.n 5) [.expr (.mut .append (.var 4) (.mut .popAt (.var 3) (.call 9 (.cons (.var 0) (.cons (.blt .len (.var 3)) .nil)))))]) items [some (.ref 0), some (.lst goods), some cnt, some (.ref 1), some (.ref 2), o] [some t, some pool, some found] = .nx [some (.ref 0), some (.lst goods), some cnt, some (.ref 1), some (.ref 2), o'] [some t', some pool', some found'] ∧ (found' ++ pool').Perm goods ∧ TinOK (c + n) t' ∧ found'.length = found.length + n
  | 0, items, c, t, pool, found, o, hn, _, hp, ht, _ => by
    rw [List.length_eq_zero_iff.mp hn]
    exact ⟨t, pool, found, o, by simp, hp, ht, rfl⟩
  | n + 1, [], c, t, pool, found, o, hn, _, hp, ht, _ => by simp at hn
  | n + 1, d :: items, c, t, pool, found, o, hn, hle, hp, ht, hc => by
    have hpl := hp.length_eq
    rw [List.length_append] at hpl
    have hn' : items.length = n := by simpa using hn
    obtain ⟨v, t1, e, hv, ht1⟩ := s_take h.h9 k c t [some pool, some found] pool.length (by omega) ht (by omega) (by omega)
    obtain ⟨vi, hvi⟩ : ∃ vi : Int, vi = (v : Int) := ⟨_, rfl⟩
    rw [← hvi] at e
    have hm : mutF 1 1 pool (.int vi) .popAt = some (pool.eraseIdx v, pool[v]) := pop_ok (big_nat hvi (by omega)) (seq_nat hvi hv) (by simp [hv])
    have hst : loopF (M.call T (k + 1)) 1 (.n 5) [.expr (.mut .append (.var 4) (.mut .popAt (.var 3) (.call 9 (.cons (.var 0) (.cons (.blt .len (.var 3)) .nil)))))] d [some (.ref 0), some (.lst goods), some cnt, some (.ref 1), some (.ref 2), o] [some t, some pool, some found] = .nx [some (.ref 0), some (.lst goods), some cnt, some (.ref 1), some (.ref 2), some d] [some t1, some (pool.eraseIdx v), some (found ++ [pool[v]])] := by
      have hh : hd [some t, some pool, some found] (.ref 1) = .lst pool := rfl
      have hap : ∀ x : D, mutF 1 2 found x .append = some (found ++ [x], .non) := fun x => by
        simp only [mutF]
        rw [if_pos ⟨by omega, by simp [mayPut]⟩]
      have g0 : ∀ (a b c : Cell), cellOf [a, some pool, c] (.ref 1) = some 1 := fun _ _ _ => rfl
      have c2 : cellOf [some t, some pool, some found] (.ref 2) = some 2 := rfl
      have c1 : cellOf [some t, some pool, some found] (.ref 1) = some 1 := rfl
      have q1 : cellGet [some t1, some pool, some found] 1 = some pool := rfl
      have q2 : cellGet [some t1, some (pool.eraseIdx v), some found] 2 = some found := rfl
      rw [loopF_n]
      simp [hh, e, c1, c2, q1, mutArg, hm, q2, hap]
    have hp' : ((found ++ [pool[v]]) ++ pool.eraseIdx v).Perm goods := by
      refine List.Perm.trans ?_ hp
      rw [List.append_assoc]
      refine List.Perm.append_left found ?_
      exact eraseIdx_perm pool v hv
    have hpe : (pool.eraseIdx v).length = pool.length - 1 := by rw [List.length_eraseIdx]; simp [hv]
    obtain ⟨t', pool', found', o', ih, i2, i3, i4⟩ := pick_loop h k goods cnt hg hr n items (c + 1) t1 (pool.eraseIdx v) (found ++ [pool[v]]) (some d) hn' (by omega) hp' ht1 (by omega)
    refine ⟨t', pool', found', o', ?_, i2, i3.mono (by omega), by rw [i4, List.length_append, List.length_singleton]; omega⟩
    rw [forLoop_nx (w := none) hst trivial, ih]
theorem s_pick (h : HL T) (k : Nat) (c : Nat) (t : List D) (goods : List D) (cnt : Nat) (hg : goods.length ≤ 400000) (hr : ∀ x ∈ goods, noRef x = true) (ht : TinOK c t) (hc : c + 100 ≤ 1000000) (hcn : cnt ≤ 100) :
    ∃ (t' found rest : List D), M.call T (k + 2) 50 [.ref 0, .lst goods, .int cnt] [some t] = .ok (.lst found, [some t']) ∧ (found ++ rest).Perm goods ∧ TinOK (c + 100) t' ∧ found.length ≤ cnt := by
  have hmn : (if goods.length < cnt then (goods.length : Int) else (cnt : Int)) = ((min cnt goods.length : Nat) : Int) := by
    split <;> omega
  have hr1 : rOk1 ((min cnt goods.length : Nat) : Int) := rOk1_of (by omega) (by omega)
  obtain ⟨t', pool', found', o', e, p, ht', hfl⟩ := pick_loop h k goods (.int cnt) hg hr (min cnt goods.length) ((List.range (min cnt goods.length)).map fun k : Nat => D.int (k : Int)) c t goods [] none (by simp) (Nat.min_le_right _ _) (List.Perm.refl _) ht (by omega)
  have hrf : noRefs found' = true := nrs_iff.mpr fun x hx => hr x (p.mem_iff.mp (List.mem_append_left _ hx))
  refine ⟨t', found', pool', ?_, p, ht'.mono (by omega), by rw [hfl]; simp; omega⟩
  rw [call_succ h.h50]
  have main : SL (M.call T (k + 1)) 1 D__law_pick.body (startE D__law_pick.N [.ref 0, .lst goods, .int cnt]) [some t] = .rt (.ref 2) [some t', some pool', some found'] := by
    have hh : hd [some t, some goods, some []] (.ref 1) = .lst goods := rfl
    simp only [D__law_pick, startE]
    simp [setTgt, hh]
    rw [hmn, rIt1_ok hr1, range0_eq]
    simp only [Out_to_ok']
    rw [e]
    simp
  unfold runDef
  rw [if_pos (by rfl)]
  show (match SL (M.call T (k + 1)) 1 D__law_pick.body (startE D__law_pick.N [.ref 0, .lst goods, .int cnt]) [some t] with | .rt d τ' => _ | .nx _ τ' => _ | .exc c p _ τ' => _ | _ => _) = _
  rw [main]
  simp [fin, hrf]
end M
set_option Elab.async false
set_option linter.all false
set_option maxRecDepth 100000
set_option maxHeartbeats 4000000
namespace M
open PySem
variable {T : Nat → Option Def}
theorem range_snoc (m : Nat) : (List.range (m + 1)).map (fun i : Nat => 1 + (i : Int)) = (List.range m).map (fun i : Nat => 1 + (i : Int)) ++ [1 + (m : Int)] := by
  rw [List.range_succ, List.map_append]; rfl
theorem Good.le {m : Nat} {P : List (List Int)} (g : Good m P) {l : List Int} (hl : l ∈ P) {x : Int} (hx : x ∈ l) : 1 ≤ x ∧ x ≤ (m : Int) := by
  have : x ∈ P.flatten := List.mem_flatten.mpr ⟨l, hl, hx⟩
  have := g.perm.mem_iff.mp this
  obtain ⟨i, hi, rfl⟩ := List.mem_map.mp this
  have := List.mem_range.mp hi
  omega
theorem hd0_mem {l : List Int} (h : l ≠ []) : hd0 l ∈ l := by
  cases l with
  | nil => exact absurd rfl h
  | cons x r => exact List.mem_cons_self
theorem Good.new {m : Nat} {P : List (List Int)} (g : Good m P) : Good (m + 1) (P ++ [[1 + (m : Int)]]) where
  ne := fun l hl => by
    rcases List.mem_append.mp hl with h | h
    · exact g.ne l h
    · rw [List.mem_singleton] at h; subst h; simp
  asc := fun l hl => by
    rcases List.mem_append.mp hl with h | h
    · exact g.asc l h
    · rw [List.mem_singleton] at h; subst h; simp
  perm := by
    rw [List.flatten_append, range_snoc]
    simp only [List.flatten_cons, List.flatten_nil, List.append_nil]
    exact g.perm.append_right _
  heads := by
    rw [List.map_append, List.pairwise_append]
    refine ⟨g.heads, by simp, fun a ha b hb => ?_⟩
    obtain ⟨l, hl, rfl⟩ := List.mem_map.mp ha
    simp only [List.map_cons, List.map_nil, List.mem_singleton] at hb
    subst hb
    have := (g.le hl (hd0_mem (g.ne l hl))).2
    show hd0 l < 1 + (m : Int)
    omega
theorem flatten_set : ∀ (P : List (List Int)) (j : Nat) (l : List Int) (x : Int), P[j]? = some l → (P.set j (l ++ [x])).flatten.Perm (P.flatten ++ [x])
  | a :: P, 0, l, x, h => by
    simp only [List.getElem?_cons_zero, Option.some.injEq] at h
    subst h
    rw [List.set_cons_zero, List.flatten_cons, List.flatten_cons, List.append_assoc, List.append_assoc]
    exact List.Perm.append_left a List.perm_append_comm
  | a :: P, j + 1, l, x, h => by
    rw [List.getElem?_cons_succ] at h
    rw [List.set_cons_succ, List.flatten_cons, List.flatten_cons, List.append_assoc]
    exact List.Perm.append_left a (flatten_set P j l x h)
theorem map_set_hd : ∀ (P : List (List Int)) (j : Nat) (l : List Int) (x : Int), P[j]? = some l → l ≠ [] → (P.set j (l ++ [x])).map hd0 = P.map hd0
  | a :: P, 0, l, x, h, hn => by
    simp only [List.getElem?_cons_zero, Option.some.injEq] at h
    subst h
    rw [List.set_cons_zero, List.map_cons, List.map_cons]
    cases a with
    | nil => exact absurd rfl hn
    | cons => rfl
  | a :: P, j + 1, l, x, h, hn => by
    rw [List.getElem?_cons_succ] at h
    rw [List.set_cons_succ, List.map_cons, List.map_cons, map_set_hd P j l x h hn]
theorem Good.add {m : Nat} {P : List (List Int)} (g : Good m P) {j : Nat} {l : List Int} (h : P[j]? = some l) : Good (m + 1) (P.set j (l ++ [1 + (m : Int)])) where
  ne := fun l' hl => by
    rcases List.mem_or_eq_of_mem_set hl with h | h
    · exact g.ne l' h
    · subst h; simp
  asc := fun l' hl => by
    rcases List.mem_or_eq_of_mem_set hl with h' | h'
    · exact g.asc l' h'
    · subst h'
      have hm := List.mem_of_getElem? h
      rw [List.pairwise_append]
      refine ⟨g.asc l hm, by simp, fun a ha b hb => ?_⟩
      rw [List.mem_singleton] at hb
      subst hb
      have := (g.le hm ha).2
      omega
  perm := by
    rw [range_snoc]
    exact (flatten_set P j l _ h).trans (g.perm.append_right _)
  heads := by
    rw [map_set_hd P j l _ h (g.ne l (List.mem_of_getElem? h))]
    exact g.heads
theorem Good.zero : Good 0 [] := ⟨fun _ h => (by cases h), fun _ h => (by cases h), by simp, by simp⟩
theorem ixN_nat {n v : Nat} (h : v < n) : L2.ixN n (v : Int) = some v := by
  unfold L2.ixN
  rw [if_pos (by omega), if_pos (by omega)]
  simp
def bodyP : List MStmt := [.asg (.n 5) (.call 9 (.cons (.var 0) (.cons (.blt .min (.lst (.cons (.bin .add (.blt .len (.var 2)) (.con (.int 1))) (.cons (.var 3) .nil)))) .nil))), .ite (.cmp .lt (.var 5) (.blt .len (.var 2))) [.asg (.n 5) (.call 9 (.cons (.var 0) (.cons (.blt .len (.var 2)) .nil))), .setidx (.var 2) (.var 5) (.bin .add (.idx (.var 2) (.var 5)) (.tup (.cons (.var 4) .nil)))] [.expr (.mut .append (.var 2) (.tup (.cons (.var 4) .nil)))]]
theorem part_step (h : HL T) (k : Nat) (c : Nat) (t : List D) (most : D) (few : Nat) (m : Nat) (P : List (List Int)) (o o2 : Option D) (g : Good m P) (hm : m ≤ 100) (hf : 0 < few) (hf2 : few ≤ 100) (ht : TinOK c t) (hc : c + 2 ≤ 1000000) :
    ∃ (t' : List D) (P' : List (List Int)) (s : Int), loopF (M.call T (k + 1)) 1 (.n 4) bodyP (.int (1 + (m : Int))) [some (.ref 0), some most, some (.ref 1), some (.int (few : Int)), o, o2] [some t, some (P.map eI)] = .nx [some (.ref 0), some most, some (.ref 1), some (.int (few : Int)), some (.int (1 + (m : Int))), some (.int s)] [some t', some (P'.map eI)] ∧ Good (m + 1) P' ∧ TinOK (c + 2) t' := by
  have hcnt := g.cnt
  have hmin : bltF .min (.lst [.int ((P.length : Int) + 1), .int (few : Int)]) = some (.int ((min (P.length + 1) few : Nat) : Int)) := by
    have := min_map ord_int (by decide) (fun a => rfl) ((P.length : Int) + 1) [(few : Int)]
    have e : minL (fun a b : Int => decide (a < b)) ((P.length : Int) + 1) [(few : Int)] = ((min (P.length + 1) few : Nat) : Int) := by
      show (if decide ((few : Int) < (P.length : Int) + 1) = true then (few : Int) else (P.length : Int) + 1) = _
      by_cases e : (few : Int) < (P.length : Int) + 1
      · rw [if_pos (decide_eq_true e)]; omega
      · rw [if_neg (fun z => e (of_decide_eq_true z))]; omega
    rw [e] at this
    exact this
  have hh : ∀ t : List D, hd [some t, some (P.map eI)] (.ref 1) = .lst (P.map eI) := fun _ => rfl
  obtain ⟨v1, t1, e1, hv1, ht1⟩ := s_take h.h9 k c t [some (P.map eI)] (min (P.length + 1) few) (by omega) ht (by omega) (by omega)
  rw [loopF_n]
  by_cases hlt : v1 < P.length
  · obtain ⟨v2, t2, e2, hv2, ht2⟩ := s_take h.h9 k (c + 1) t1 [some (P.map eI)] P.length (by omega) ht1 (by omega) (by omega)
    have hP : P[v2]? = some P[v2] := by simp [hv2]
    refine ⟨t2, P.set v2 (P[v2] ++ [1 + (m : Int)]), (v2 : Int), ?_, g.add hP, ht2⟩
    have hix : idxF (.lst (P.map eI)) (.int (v2 : Int)) = some (eI P[v2]) := idx_nat (by rw [List.getElem?_map, hP]; rfl)
    have hadd : binF .add (eI P[v2]) (.tup [.int (1 + (m : Int))]) = some (eI (P[v2] ++ [1 + (m : Int)])) := by
      have := len_leS (List.getElem_mem hv2)
      rw [g.len] at this
      simp only [eI, binF, List.length_map, List.length_singleton]
      rw [if_pos (by omega)]
      simp
    have hset : ∀ t : List D, setIdx 1 (.ref 1) (.int (v2 : Int)) (eI (P[v2] ++ [1 + (m : Int)])) [some t, some (P.map eI)] = some [some t, some ((P.set v2 (P[v2] ++ [1 + (m : Int)])).map eI)] := fun t => by
      have hcg : cellGet [some t, some (P.map eI)] 1 = some (P.map eI) := rfl
      simp only [setIdx, hcg, Option.bind_some, List.length_map, ixN_nat hv2]
      simp [mayPut, List.map_set]
    simp only [bodyP]
    simp [hh, hmin, e1, hlt, e2, hix, hadd, hset]
  · refine ⟨t1, P ++ [[1 + (m : Int)]], (v1 : Int), ?_, g.new, ht1.mono (by omega)⟩
    have c1 : ∀ t : List D, cellOf [some t, some (P.map eI)] (.ref 1) = some 1 := fun _ => rfl
    have q1 : ∀ t : List D, cellGet [some t, some (P.map eI)] 1 = some (P.map eI) := fun _ => rfl
    have hap : ∀ x : D, mutF 1 1 (P.map eI) x .append = some (P.map eI ++ [x], .non) := fun x => by
      simp only [mutF]
      rw [if_pos ⟨by rw [List.length_map]; omega, by simp [mayPut]⟩]
    have he : eI [1 + (m : Int)] = .tup [.int (1 + (m : Int))] := rfl
    simp only [bodyP]
    simp [hh, hmin, e1, hlt, c1, q1, mutArg, hap, he]
theorem part_loop (h : HL T) (k : Nat) (most : D) (few : Nat) (hf : 0 < few) (hf2 : few ≤ 100) : ∀ (n : Nat) (m c : Nat) (t : List D) (P : List (List Int)) (o o2 : Option D), Good m P → m + n ≤ 100 → TinOK c t → c + 2 * n ≤ 1000000 →
    ∃ (t' : List D) (P' : List (List Int)) (o' o2' : Option D), forLoop none (loopF (M.call T (k + 1)) 1 (.n 4) bodyP) ((List.range' m n).map fun i : Nat => D.int (1 + (i : Int))) [some (.ref 0), some most, some (.ref 1), some (.int (few : Int)), o, o2] [some t, some (P.map eI)] = .nx [some (.ref 0), some most, some (.ref 1), some (.int (few : Int)), o', o2'] [some t', some (P'.map eI)] ∧ Good (m + n) P' ∧ TinOK (c + 2 * n) t'
  | 0, m, c, t, P, o, o2, g, _, ht, _ => ⟨t, P, o, o2, by simp, g, ht⟩
  | n + 1, m, c, t, P, o, o2, g, hm, ht, hc => by
    obtain ⟨t1, P1, s, e, g1, ht1⟩ := part_step h k c t most few m P o o2 g (by omega) hf hf2 ht (by omega)
    obtain ⟨t2, P2, o', o2', e2, g2, ht2⟩ := part_loop h k most few hf hf2 n (m + 1) (c + 2) t1 P1 _ _ g1 (by omega) ht1 (by omega)
    refine ⟨t2, P2, o', o2', ?_, by rw [show m + (n + 1) = m + 1 + n by omega]; exact g2, ht2.mono (by omega)⟩
    rw [List.range'_succ, List.map_cons, forLoop_nx (w := none) e trivial, e2]
theorem s_parting (h : HL T) (k : Nat) (c : Nat) (t : List D) (most : Nat) (hm : most ≤ 50) (ht : TinOK c t) (hc : c + 200 ≤ 1000000) :
    ∃ (t' : List D) (m : Nat) (P : List (List Int)), M.call T (k + 3) 54 [.ref 0, .int (most : Int)] [some t] = .ok (eP P, [some t']) ∧ m ≤ most ∧ Good m P ∧ TinOK (c + 200) t' := by
  obtain ⟨d, t1, e1, hdm, ht1⟩ := s_of h.h9 h.h11 k c t [some []] [.int 2, .int 3, .int 9] (by omega) ht (by simp) (by show 3 ≤ 1000000; decide) (fun x hx => by
    simp only [List.mem_cons, List.not_mem_nil, or_false] at hx
    rcases hx with rfl | rfl | rfl <;> rfl)
  obtain ⟨few, hfew, hf, hf2⟩ : ∃ few : Nat, d = .int (few : Int) ∧ 0 < few ∧ few ≤ 100 := by
    simp only [List.mem_cons, List.not_mem_nil, or_false] at hdm
    rcases hdm with rfl | rfl | rfl
    · exact ⟨2, rfl, by decide, by decide⟩
    · exact ⟨3, rfl, by decide, by decide⟩
    · exact ⟨9, rfl, by decide, by decide⟩
  subst hfew
  obtain ⟨v, t2, e2, hv, ht2⟩ := s_take h.h9 (k + 1) (c + 1) t1 [some []] (most + 1) (by omega) ht1 (by omega) (by omega)
  obtain ⟨t3, P, o, o2, e3, g, ht3⟩ := part_loop h (k + 1) (.int (most : Int)) few hf hf2 v 0 (c + 2) t2 [] none none Good.zero (by omega) ht2 (by omega)
  rw [Nat.zero_add] at g
  refine ⟨t3, v, P, ?_, by omega, g, ht3.mono (by omega)⟩
  rw [call_succ h.h54]
  have hr : rOk2 1 ((v : Int) + 1) := rOk2_of (by omega) (by omega) (by omega) (by omega)
  have hre : intRange 1 ((v : Int) + 1) = (List.range' 0 v).map fun i : Nat => D.int (1 + (i : Int)) := by
    rw [range_eq, List.map_map, ← List.range_eq_range']; rfl
  have e2' : M.call T (k + 2) 9 [.ref 0, .int ((most : Int) + 1)] [some t1, some []] = .ok (.int (v : Int), [some t2, some []]) := by
    have : (((most + 1 : Nat)) : Int) = (most : Int) + 1 := by omega
    rw [this] at e2
    exact e2
  have main : SL (M.call T (k + 2)) 1 D__law_parting.body (startE D__law_parting.N [.ref 0, .int (most : Int)]) [some t] = .rt (eP P) [some t3, some (P.map eI)] := by
    have hh : hd [some t3, some (P.map eI)] (.ref 1) = .lst (P.map eI) := rfl
    have e0 : eP P = .tup (P.map eI) := rfl
    simp only [D__law_parting, startE]
    simp only [bodyP] at e3
    simp [e1, setTgt, e2', rIt_ok hr, hre]
    simp at e3
    rw [e3]
    simp [hh, e0]
  unfold runDef
  rw [if_pos (by rfl)]
  show (match SL (M.call T (k + 2)) 1 D__law_parting.body (startE D__law_parting.N [.ref 0, .int (most : Int)]) [some t] with | .rt d τ' => _ | .nx _ τ' => _ | .exc c p _ τ' => _ | _ => _) = _
  rw [main]
  simp [fin_nr]
end M
set_option Elab.async false
set_option linter.all false
set_option maxRecDepth 100000
set_option maxHeartbeats 4000000
namespace M
open PySem
variable {T : Nat → Option Def}
structure PIv (m : Nat) (F : List (List Int)) (L : List Int) : Prop where
  ne : ∀ l ∈ F, l ≠ []
  asc : ∀ l ∈ F, l.Pairwise (· < ·)
  perm : (F.flatten ++ L).Perm ((List.range m).map fun i : Nat => 1 + (i : Int))
  lp : L.Pairwise (· < ·)
  heads : (F.map hd0).Pairwise (· < ·)
  hl : ∀ l ∈ F, ∀ x ∈ L, hd0 l < x
theorem PIv.step {m : Nat} {F : List (List Int)} {x o : Int} {L : List Int} (h : PIv m F (x :: L)) (ho : o ∈ L) : PIv m (F ++ [[x, o]]) (L.filter fun k => decide (k ≠ o)) := by
  have hlp := h.lp
  rw [List.pairwise_cons] at hlp
  have nd : L.Nodup := hlp.2.imp fun h => by omega
  have her : L.filter (fun k => decide (k ≠ o)) = L.erase o := by
    rw [nd.erase_eq_filter]
    apply List.filter_congr
    intro k _
    by_cases e : k = o <;> simp [e]
  have hsub : ∀ y ∈ L.filter (fun k => decide (k ≠ o)), y ∈ L := fun y hy => (List.mem_filter.mp hy).1
  refine ⟨fun l hl => ?_, fun l hl => ?_, ?_, hlp.2.filter _, ?_, fun l hl y hy => ?_⟩
  · rcases List.mem_append.mp hl with h' | h'
    · exact h.ne l h'
    · rw [List.mem_singleton] at h'; subst h'; simp
  · rcases List.mem_append.mp hl with h' | h'
    · exact h.asc l h'
    · rw [List.mem_singleton] at h'; subst h'
      have := hlp.1 o ho
      simp [this]
  · refine List.Perm.trans ?_ h.perm
    rw [her, List.flatten_append, List.append_assoc]
    refine List.Perm.append_left _ ?_
    simp only [List.flatten_cons, List.flatten_nil, List.append_nil]
    exact List.Perm.cons x (List.perm_cons_erase ho).symm
  · rw [List.map_append, List.pairwise_append]
    refine ⟨h.heads, by simp, fun a ha b hb => ?_⟩
    obtain ⟨l, hl, rfl⟩ := List.mem_map.mp ha
    simp only [List.map_cons, List.map_nil, List.mem_singleton] at hb
    rw [hb]
    exact h.hl l hl _ List.mem_cons_self
  · rcases List.mem_append.mp hl with h' | h'
    · exact h.hl l h' y (List.mem_cons_of_mem _ (hsub y hy))
    · rw [List.mem_singleton] at h'; subst h'
      exact hlp.1 y (hsub y hy)
theorem erase_len {L : List Int} {o : Int} (nd : L.Pairwise (· < ·)) (ho : o ∈ L) : (L.filter fun k => decide (k ≠ o)).length = L.length - 1 := by
  have nd' : L.Nodup := nd.imp fun h => by omega
  have her : L.filter (fun k => decide (k ≠ o)) = L.erase o := by
    rw [nd'.erase_eq_filter]
    apply List.filter_congr
    intro k _
    by_cases e : k = o <;> simp [e]
  rw [her, List.length_erase_of_mem ho]
def bodyQ : List MStmt := [.ite (.cmp .ne (.var 2) (.lst .nil)) [.asg (.n 5) (.call 11 (.cons (.var 0) (.cons (.slice (.var 2) (.some (.con (.int 1))) .none) .nil))), .expr (.mut .append (.var 3) (.tup (.cons (.idx (.var 2) (.con (.int 0))) (.cons (.var 5) .nil)))), .asg (.n 2) (.lc (.var 6) (.n 6) (.over (.slice (.var 2) (.some (.con (.int 1))) .none)) (.some (.cmp .ne (.var 6) (.var 5))) [("k", 6)])] []]
theorem pairing_step (h : HL T) (k : Nat) (c : Nat) (t : List D) (most lap : D) (m : Nat) (F : List (List Int)) (L : List Int) (o o2 : Option D) (g : PIv m F L) (hm : m ≤ 1000) (e : Nat) (he : L.length = 2 * e) (ht : TinOK c t) (hc : c + 1 ≤ 1000000) (hF : F.length ≤ 1000) :
    ∃ (t' : List D) (F' : List (List Int)) (L' : List Int) (o' : Option D), loopF (M.call T (k + 2)) 1 (.n 4) bodyQ lap [some (.ref 0), some most, some (lI L), some (.ref 1), o, o2, none] [some t, some (F.map eI)] = .nx [some (.ref 0), some most, some (lI L'), some (.ref 1), some lap, o', none] [some t', some (F'.map eI)] ∧ PIv m F' L' ∧ L'.length = 2 * (e - 1) ∧ TinOK (c + 1) t' ∧ F'.length ≤ F.length + 1 := by
  have hpe := eqv_int.lst.peq (by decide) L []
  have hpe : peq (lI L) (.lst []) = some (decide (L = [])) := hpe
  have hhl : ∀ τ : Store, hd τ (lI L) = lI L := fun _ => rfl
  rw [loopF_n]
  cases L with
  | nil =>
    refine ⟨t, F, [], o2, ?_, g, ?_, ht.mono (by omega), by omega⟩
    · simp only [bodyQ]
      simp [hhl, hpe]
    · simp at he ⊢; omega
  | cons x L =>
    have hLn : L ≠ [] := by
      intro z
      subst z
      simp at he
      omega
    have hlp := g.lp
    rw [List.pairwise_cons] at hlp
    have hll : (F.flatten ++ x :: L).length = m := by rw [g.perm.length_eq]; simp
    have hLl : L.length ≤ 1000 := by rw [List.length_append, List.length_cons] at hll; omega
    obtain ⟨d, t1, e1, hdm, ht1⟩ := s_of h.h9 h.h11 k c t [some (F.map eI)] (L.map D.int) (by omega) ht (by simpa using hLn) (by rw [List.length_map]; omega) (fun y hy => by
      obtain ⟨i, _, rfl⟩ := List.mem_map.mp hy; rfl)
    obtain ⟨oi, ho, rfl⟩ := List.mem_map.mp hdm
    refine ⟨t1, F ++ [[x, oi]], L.filter fun k => decide (k ≠ oi), some (.int oi), ?_, g.step ho, ?_, ht1, by simp⟩
    · have hsl : sliceF (some 1) none (lI (x :: L)) = some (.lst (L.map D.int)) := by
        simp [lI]
      have hix : idxF (lI (x :: L)) (.int 0) = some (.int x) := by simp [lI]
      have c1 : ∀ t : List D, cellOf [some t, some (F.map eI)] (.ref 1) = some 1 := fun _ => rfl
      have q1 : ∀ t : List D, cellGet [some t, some (F.map eI)] 1 = some (F.map eI) := fun _ => rfl
      have hap : ∀ y : D, mutF 1 1 (F.map eI) y .append = some (F.map eI ++ [y], .non) := fun y => by
        simp only [mutF]
        rw [if_pos ⟨by rw [List.length_map]; omega, by simp [mayPut]⟩]
      have he2 : eI [x, oi] = .tup [.int x, .int oi] := rfl
      simp only [bodyQ]
      simp [hhl, hpe, hsl, e1, hix, c1, q1, mutArg, hap, he2]
      rw [lcOut_filter (F := D.int) (p := fun k => decide (k ≠ oi))]
      rotate_left
      · intro y hy
        simp [lcTurn, wipeE, setTgt]
        by_cases hyo : y = oi <;> simp [hyo]
      simp [lI]
    · rw [erase_len hlp.2 ho]
      rw [List.length_cons] at he
      omega
theorem pairing_loop (h : HL T) (k : Nat) (most : D) (m : Nat) (hm : m ≤ 1000) : ∀ (items : List D) (c : Nat) (t : List D) (F : List (List Int)) (L : List Int) (e : Nat) (o o2 : Option D), PIv m F L → L.length = 2 * e → TinOK c t → c + items.length ≤ 1000000 → F.length + items.length ≤ 1000 →
    ∃ (t' : List D) (F' : List (List Int)) (L' : List Int) (o' o2' : Option D), forLoop none (loopF (M.call T (k + 2)) 1 (.n 4) bodyQ) items [some (.ref 0), some most, some (lI L), some (.ref 1), o, o2, none] [some t, some (F.map eI)] = .nx [some (.ref 0), some most, some (lI L'), some (.ref 1), o', o2', none] [some t', some (F'.map eI)] ∧ PIv m F' L' ∧ L'.length = 2 * (e - items.length) ∧ TinOK (c + items.length) t'
  | [], c, t, F, L, e, o, o2, g, he, ht, _, _ => ⟨t, F, L, o, o2, by simp, g, by simpa using he, ht⟩
  | d :: items, c, t, F, L, e, o, o2, g, he, ht, hc, hF => by
    rw [List.length_cons] at hc hF
    obtain ⟨t1, F1, L1, o1, e1, g1, he1, ht1, hF1⟩ := pairing_step h k c t most d m F L o o2 g hm e he ht (by omega) (by omega)
    obtain ⟨t2, F2, L2, o3, o4, e2, g2, he2, ht2⟩ := pairing_loop h k most m hm items (c + 1) t1 F1 L1 (e - 1) (some d) o1 g1 he1 ht1 (by omega) (by omega)
    refine ⟨t2, F2, L2, o3, o4, ?_, g2, by rw [he2, List.length_cons]; omega, ht2.mono (by rw [List.length_cons]; omega)⟩
    rw [forLoop_nx (w := none) e1 trivial, e2]
theorem s_pairing (h : HL T) (k : Nat) (c : Nat) (t : List D) (most : Nat) (hm : most ≤ 50) (ht : TinOK c t) (hc : c + 200 ≤ 1000000) :
    ∃ (t' : List D) (m : Nat) (P : List (List Int)), M.call T (k + 3) 55 [.ref 0, .int (most : Int)] [some t] = .ok (eP P, [some t']) ∧ m ≤ 2 * most ∧ Good m P ∧ TinOK (c + 200) t' := by
  obtain ⟨mi, hmi⟩ : ∃ mi : Int, mi = (most : Int) := ⟨_, rfl⟩
  rw [← hmi]
  obtain ⟨v, t1, e1, hv, ht1⟩ := s_take h.h9 (k + 1) c t [] (most + 1) (by omega) ht (by omega) (by omega)
  have e1' : M.call T (k + 2) 9 [.ref 0, .int (mi + 1)] [some t] = .ok (.int (v : Int), [some t1]) := by
    have : (((most + 1 : Nat)) : Int) = mi + 1 := by omega
    rw [this] at e1
    exact e1
  have hI : PIv (2 * v) [] ((List.range (2 * v)).map fun i : Nat => 1 + (i : Int)) := by
    refine ⟨fun l hl => (by cases hl), fun l hl => (by cases hl), by simp, ?_, by simp, fun l hl => (by cases hl)⟩
    rw [List.pairwise_map]
    exact List.pairwise_lt_range.imp fun h => by omega
  obtain ⟨t2, F, L, o, o2, e2, g, he, ht2⟩ := pairing_loop h k (.int mi) (2 * v) (by omega) ((List.range most).map fun i : Nat => D.int (i : Int)) (c + 1) t1 [] _ v none none hI (by simp) ht1 (by simp; omega) (by simp; omega)
  have hL : L = [] := by
    apply List.length_eq_zero_iff.mp
    rw [he, List.length_map, List.length_range]; omega
  subst hL
  have gd : Good (2 * v) F := ⟨g.ne, g.asc, by have := g.perm; rw [List.append_nil] at this; exact this, g.heads⟩
  refine ⟨t2, 2 * v, F, ?_, by omega, gd, ht2.mono (by rw [List.length_map, List.length_range]; omega)⟩
  rw [call_succ h.h55]
  obtain ⟨vi, hvi⟩ : ∃ vi : Int, vi = (v : Int) := ⟨_, rfl⟩
  rw [← hvi] at e1'
  have hr : rOk2 1 (2 * vi + 1) := rOk2_of (by omega) (by omega) (by omega) (by omega)
  have hr1 : rOk1 mi := rOk1_of (by omega) (by omega)
  have hra : intRange 0 mi = (List.range most).map fun i : Nat => D.int (i : Int) := by rw [hmi, range0_eq]
  have hmul : binF .mul (.int 2) (.int vi) = some (.int (2 * vi)) := mul_l (small_of (by omega) (by omega))
  have main : SL (M.call T (k + 2)) 1 D__law_pairing.body (startE D__law_pairing.N [.ref 0, .int mi]) [some t] = .rt (eP F) [some t2, some (F.map eI)] := by
    have hh : hd [some t2, some (F.map eI)] (.ref 1) = .lst (F.map eI) := rfl
    have e0 : eP F = .tup (F.map eI) := rfl
    simp only [D__law_pairing, startE]
    simp only [bodyQ, lI, List.map_nil] at e2
    have hre : intRange 1 (2 * vi + 1) = ((List.range (2 * v)).map fun i : Nat => 1 + (i : Int)).map D.int := by
      rw [← range_eq (2 * v), show ((2 * v : Nat) : Int) = 2 * vi by omega]
    simp only [List.length_cons, List.length_nil, List.map_cons, List.map_nil, List.replicate, List.cons_append, List.nil_append, SL_cons, S_asg, E_tup, EA_cons, EA_nil, E_lrange2, E_con, E_bin, E_call, E_var, Out.bind_ok]
    simp [e1', hmul]
    rw [rGo_ok hr, hre]
    simp [seqD, setTgt, rIt1_ok hr1, hra, -List.map_map]
    rw [e2]
    simp [hh, e0]
  unfold runDef
  rw [if_pos (by rfl)]
  show (match SL (M.call T (k + 2)) 1 D__law_pairing.body (startE D__law_pairing.N [.ref 0, .int mi]) [some t] with | .rt d τ' => _ | .nx _ τ' => _ | .exc c p _ τ' => _ | _ => _) = _
  rw [main]
  simp [fin_nr]
end M
set_option Elab.async false
set_option linter.all false
set_option maxRecDepth 100000
set_option maxHeartbeats 4000000
namespace M
open PySem
/-! ### arcs of a good parting -/
theorem mem_zip_tail : ∀ {l : List Int} {p : Int × Int}, l.Pairwise (· < ·) → p ∈ l.zip l.tail → p.1 ∈ l ∧ p.2 ∈ l ∧ p.1 < p.2
  | [], p, _, h => by cases h
  | [x], p, _, h => by cases h
  | x :: y :: r, p, hp, h => by
    rw [List.pairwise_cons] at hp
    rw [List.tail_cons, List.zip_cons_cons] at h
    rcases List.mem_cons.mp h with rfl | h
    · exact ⟨List.mem_cons_self, List.mem_cons_of_mem _ List.mem_cons_self, hp.1 y List.mem_cons_self⟩
    · obtain ⟨h1, h2, h3⟩ := mem_zip_tail hp.2 (by rw [List.tail_cons]; exact h)
      exact ⟨List.mem_cons_of_mem _ h1, List.mem_cons_of_mem _ h2, h3⟩
theorem fst_zip_tail : ∀ l : List Int, ((l.zip l.tail).map (·.1)).Sublist l
  | [] => List.Sublist.refl _
  | [x] => by simp
  | x :: y :: r => by
    rw [List.tail_cons, List.zip_cons_cons, List.map_cons]
    exact (fst_zip_tail (y :: r)).cons₂ x
theorem snd_zip_tail : ∀ l : List Int, ((l.zip l.tail).map (·.2)).Sublist l
  | [] => List.Sublist.refl _
  | [x] => by simp
  | x :: y :: r => by
    rw [List.tail_cons, List.zip_cons_cons, List.map_cons]
    refine List.Sublist.cons x ?_
    have : ∀ (l m : List Int), ((l.zip m).map (·.2)).Sublist m := by
      intro l m
      rw [show ((l.zip m).map (·.2)) = m.take (l.zip m).length by
        induction l generalizing m with
        | nil => simp
        | cons a l ih => cases m with
          | nil => simp
          | cons b m => simp [ih]]
      exact List.take_sublist _ _
    exact (this _ _).cons₂ y
theorem raw_sub (f : Int × Int → Int) (h : ∀ l : List Int, ((l.zip l.tail).map f).Sublist l) : ∀ P : List (List Int), ((rawArcs P).map f).Sublist P.flatten
  | [] => by simp [rawArcs]
  | l :: P => by
    have := raw_sub f h P
    unfold rawArcs at this ⊢
    rw [List.flatMap_cons, List.map_append, List.flatten_cons]
    exact (h l).append this
theorem arcs_ok {m : Nat} {P : List (List Int)} (g : Good m P) : Arcs m (arcsOf P) := by
  have ndf : P.flatten.Nodup := by
    refine (g.perm.nodup_iff).mpr ?_
    have := List.nodup_range (n := m)
    exact List.Pairwise.map _ (fun a b h => by intro e; apply h; omega) this
  have hp : (arcsOf P).Perm (rawArcs P) := List.mergeSort_perm _ _
  have n1 : ((arcsOf P).map (·.1)).Nodup := ((hp.map _).nodup_iff).mpr ((raw_sub _ fst_zip_tail P).nodup ndf)
  have n2 : ((arcsOf P).map (·.2)).Nodup := ((hp.map _).nodup_iff).mpr ((raw_sub _ snd_zip_tail P).nodup ndf)
  refine ⟨?_, fun p hp' => ?_, n2⟩
  · have hs := List.pairwise_mergeSort (le := fun a b : Int × Int => !ltA b a) (fun a b c h1 h2 => by
      simp only [Bool.not_eq_true'] at *
      cases h : ltA c a with
      | false => rfl
      | true =>
        cases h3 : ltA a b with
        | true => have := lord_A.tr _ _ _ h h3; rw [h2] at this; cases this
        | false =>
          have := lord_A.tri _ _ h3 h1
          subst this
          rw [h] at h2; cases h2) (fun a b => by
      cases h : ltA b a with
      | false => simp
      | true =>
        cases h2 : ltA a b with
        | false => simp
        | true => have := lord_A.tr _ _ _ h h2; rw [lord_A.ir] at this; cases this) (rawArcs P)
    have n1' : (arcsOf P).Pairwise (fun p q => p.1 ≠ q.1) := List.pairwise_map.mp n1
    refine (hs.and n1').imp fun {p q} h => ?_
    obtain ⟨h1, h2⟩ := h
    simp only [Bool.not_eq_true'] at h1
    unfold ltA ltPr at h1
    rw [if_neg (fun e => h2 e.symm)] at h1
    have := of_decide_eq_false h1
    omega
  · have := hp.mem_iff.mp hp'
    unfold rawArcs at this
    obtain ⟨l, hl, hz⟩ := List.mem_flatMap.mp this
    obtain ⟨h1, h2, h3⟩ := mem_zip_tail (g.asc l hl) hz
    have := g.le hl h1
    have := g.le hl h2
    omega
/-! ### the same pairs -/
theorem do_eq {way : Int} (hw : way = 1 ∨ way = -1) {p q : Int × Int} (h1 : p.1 < q.1) : doB way p q = lawDo way p q := by
  unfold doB lawDo crossB nestB
  have : ¬ (q.1 < p.1) := by omega
  rcases hw with rfl | rfl
  · simp [h1, this]
  · simp [h1, this]
theorem count_eq {m : Nat} {A : Line} (hA : Arcs m A) {way : Int} (hw : way = 1 ∨ way = -1) : ((pairsL A).countP fun x => doB way x.1 x.2) = (pairsL A).countP fun x => lawDo way x.1 x.2 := by
  apply List.countP_congr
  intro x hx
  rw [do_eq hw (pairs_mem hA.srt x hx).1]
/-! ### all lots -/
def Lot (way : Int) (A l : Line) : Prop := l.Sublist A ∧ l.Pairwise fun p q => lawDo way p q = true
theorem sub_snoc {B l : Line} {a : Int × Int} : l.Sublist (B ++ [a]) ↔ l.Sublist B ∨ ∃ l', l = l' ++ [a] ∧ l'.Sublist B := by
  rw [List.sublist_append_iff]
  constructor
  · rintro ⟨l1, l2, rfl, h1, h2⟩
    rcases List.sublist_cons_iff.mp h2 with h | ⟨r, rfl, h⟩
    · rw [List.sublist_nil] at h; subst h; left; simpa using h1
    · rw [List.sublist_nil] at h; subst h; exact .inr ⟨l1, rfl, h1⟩
  · rintro (h | ⟨l', rfl, h⟩)
    · exact ⟨l, [], by simp, h, List.nil_sublist _⟩
    · exact ⟨l', [a], rfl, h, List.Sublist.refl _⟩
theorem lots_iff (way : Int) : ∀ (A B : Line) (found : List Line), (∀ l, l ∈ found ↔ Lot way B l) → ∀ l, l ∈ A.foldl (lotStep way) found ↔ Lot way (B ++ A) l
  | [], B, found, h, l => by simpa using h l
  | a :: A, B, found, h, l => by
    rw [List.foldl_cons, lots_iff way A (B ++ [a]) (lotStep way found a) (fun l => ?_) l, List.append_assoc]
    · rfl
    · unfold lotStep
      rw [List.mem_append, h, List.mem_map]
      unfold Lot
      rw [sub_snoc]
      constructor
      · rintro (⟨h1, h2⟩ | ⟨l', hl, rfl⟩)
        · exact ⟨.inl h1, h2⟩
        · obtain ⟨h1, h2⟩ := List.mem_filter.mp hl
          rw [h] at h1
          refine ⟨.inr ⟨l', rfl, h1.1⟩, ?_⟩
          rw [List.pairwise_append]
          refine ⟨h1.2, by simp, fun p hp q hq => ?_⟩
          rw [List.mem_singleton] at hq
          subst hq
          exact List.all_eq_true.mp h2 p hp
      · rintro ⟨h1 | ⟨l', rfl, h1⟩, h2⟩
        · exact .inl ⟨h1, h2⟩
        · rw [List.pairwise_append] at h2
          refine .inr ⟨l', List.mem_filter.mpr ⟨(h l').mpr ⟨h1, h2.1⟩, List.all_eq_true.mpr fun p hp => h2.2.2 p hp a List.mem_cons_self⟩, rfl⟩
theorem mem_lots (way : Int) (A l : Line) : l ∈ lots way A ↔ Lot way A l := by
  have := lots_iff way A [] [[]] (fun l => by
    rw [List.mem_singleton]
    unfold Lot
    rw [List.sublist_nil]
    constructor
    · rintro rfl; exact ⟨rfl, by simp⟩
    · exact fun h => h.1) l
  simpa [lots] using this
/-! ### the longest lines -/
def Chain (way : Int) (l : Line) : Prop := l.Pairwise fun p q => 0 < (q.2 - p.2) * way
theorem LOrd.ntr {α : Type} {lt : α → α → Bool} (h : LOrd lt) {a b c : α} (h1 : lt c b = false) (h2 : lt b a = false) : lt c a = false := by
  cases e : lt c a with
  | false => rfl
  | true =>
    cases e2 : lt b c with
    | true => have := h.tr _ _ _ e2 e; rw [h2] at this; cases this
    | false =>
      have := h.tri _ _ e2 h1
      subst this
      rw [e] at h2; cases h2
theorem best_ok : ∀ {L : List Line}, L ≠ [] → best L ∈ L ∧ ∀ y ∈ L, ltK (keyL y) (keyL (best L)) = false
  | [], h => absurd rfl h
  | x :: xs, _ => by
    have hm := minL_mem (lt := ltK) (xs.map keyL) (keyL x)
    have hle := minL_le lord_K (xs.map keyL) (keyL x)
    rw [← List.map_cons (f := keyL)] at hm hle
    obtain ⟨l, h1, h2⟩ := List.mem_map.mp hm
    have e : best (x :: xs) = l := by
      show (minL ltK (keyL x) (xs.map keyL)).2 = l
      rw [← h2]; rfl
    rw [e]
    exact ⟨h1, fun y hy => by rw [h2]; exact hle _ (List.mem_map_of_mem hy)⟩
theorem ltL_snoc (x : Int × Int) : ∀ a b : Line, a.length = b.length → ltL ltA (a ++ [x]) (b ++ [x]) = ltL ltA a b
  | [], [], _ => by simp [ltL]
  | [], _ :: _, h => by simp at h
  | _ :: _, [], h => by simp at h
  | y :: a, z :: b, h => by
    rw [List.cons_append, List.cons_append]
    show (if y = z then ltL ltA (a ++ [x]) (b ++ [x]) else ltA y z) = if y = z then ltL ltA a b else ltA y z
    rw [ltL_snoc x a b (by simpa using h)]
theorem key_snoc (a b : Line) (x : Int × Int) : ltK (keyL (a ++ [x])) (keyL (b ++ [x])) = ltK (keyL a) (keyL b) := by
  unfold ltK ltPr keyL
  simp only [List.length_append, List.length_singleton]
  by_cases e : a.length = b.length
  · rw [if_pos (by omega), if_pos (by omega), ltL_snoc x a b e]
  · rw [if_neg (by omega), if_neg (by omega)]
    rw [Bool.eq_iff_iff, decide_eq_true_eq, decide_eq_true_eq]
    omega
theorem last_snoc (l : Line) (x : Int × Int) : lastA (l ++ [x]) = x := by simp [lastA]
theorem snoc_of {l : Line} (h : l ≠ []) : ∃ l', l = l' ++ [lastA l] := by
  refine ⟨l.dropLast, ?_⟩
  have := List.dropLast_concat_getLast h
  rw [show lastA l = l.getLast h by unfold lastA; rw [List.getLast?_eq_some_getLast h]; rfl]
  exact this.symm
theorem last_mem {l : Line} (h : l ≠ []) : lastA l ∈ l := by
  obtain ⟨l', e⟩ := snoc_of h
  rw [e]
  exact List.mem_append_right _ (by rw [last_snoc]; exact List.mem_singleton.mpr rfl)
theorem chain_last {way : Int} {l : Line} (h : Chain way l) (hn : l ≠ []) : ∀ p ∈ l, p = lastA l ∨ 0 < ((lastA l).2 - p.2) * way := by
  obtain ⟨l', e⟩ := snoc_of hn
  intro p hp
  rw [e] at h hp
  unfold Chain at h
  rw [List.pairwise_append] at h
  rcases List.mem_append.mp hp with hp | hp
  · exact .inr (h.2.2 p hp _ List.mem_cons_self)
  · exact .inl (List.mem_singleton.mp hp)
structure DP (way : Int) (R : Line) (found : List Line) : Prop where
  snd : ∀ f ∈ found, f ≠ [] ∧ f.Sublist R ∧ Chain way f
  dom : ∀ c : Line, c ≠ [] → c.Sublist R → Chain way c → ∃ f ∈ found, lastA f = lastA c ∧ ltK (keyL c) (keyL f) = false
theorem DP.step {way : Int} {R : Line} {found : List Line} (h : DP way R found) (own : Int × Int) : DP way (R ++ [own]) (stepF way found own) := by
  have hb := best_ok (L := goodsF way found own ++ [[own]]) (by simp)
  have hl : ∀ g ∈ goodsF way found own ++ [[own]], lastA g = own := fun g hg => by
    rcases List.mem_append.mp hg with hg | hg
    · obtain ⟨f, _, rfl⟩ := List.mem_map.mp hg
      exact last_snoc f own
    · rw [List.mem_singleton] at hg; subst hg; rfl
  refine ⟨fun f hf => ?_, fun c hc hs hch => ?_⟩
  · unfold stepF at hf
    rcases List.mem_append.mp hf with hf | hf
    · obtain ⟨h1, h2, h3⟩ := h.snd f hf
      exact ⟨h1, h2.trans (List.sublist_append_left _ _), h3⟩
    · rw [List.mem_singleton] at hf
      have hm := hb.1
      rw [← hf] at hm
      rcases List.mem_append.mp hm with hm | hm
      · obtain ⟨f', hf', rfl⟩ := List.mem_map.mp hm
        obtain ⟨h0, hg⟩ := List.mem_filter.mp hf'
        obtain ⟨h1, h2, h3⟩ := h.snd f' h0
        refine ⟨by simp, h2.append (List.Sublist.refl _), ?_⟩
        unfold Chain
        rw [List.pairwise_append]
        refine ⟨h3, by simp, fun p hp q hq => ?_⟩
        rw [List.mem_singleton] at hq
        subst hq
        have hg := of_decide_eq_true hg
        rcases chain_last h3 h1 p hp with e | e
        · rw [e]; exact hg
        · have : (q.2 - p.2) * way = (q.2 - (lastA f').2) * way + ((lastA f').2 - p.2) * way := by
            rw [← Int.add_mul]; congr 1; omega
          rw [this]; omega
      · rw [List.mem_singleton] at hm
        subst hm
        refine ⟨by simp, List.sublist_append_right _ _, by unfold Chain; simp⟩
  · rw [sub_snoc] at hs
    rcases hs with hs | ⟨c', rfl, hs⟩
    · obtain ⟨f, h1, h2, h3⟩ := h.dom c hc hs hch
      exact ⟨f, List.mem_append_left _ h1, h2, h3⟩
    · refine ⟨best (goodsF way found own ++ [[own]]), List.mem_append_right _ (List.mem_singleton.mpr rfl), ?_, ?_⟩
      · rw [last_snoc]; exact hl _ hb.1
      · by_cases hc' : c' = []
        · subst hc'
          exact hb.2 [own] (List.mem_append_right _ (List.mem_singleton.mpr rfl))
        · unfold Chain at hch
          rw [List.pairwise_append] at hch
          obtain ⟨f, h1, h2, h3⟩ := h.dom c' hc' hs hch.1
          have hgd : 0 < (own.2 - (lastA f).2) * way := by
            rw [h2]; exact hch.2.2 _ (last_mem hc') own List.mem_cons_self
          have hfm : f ++ [own] ∈ goodsF way found own ++ [[own]] := List.mem_append_left _ (List.mem_map.mpr ⟨f, List.mem_filter.mpr ⟨h1, decide_eq_true hgd⟩, rfl⟩)
          refine lord_K.ntr (b := keyL (f ++ [own])) ?_ (hb.2 _ hfm)
          rw [key_snoc]; exact h3
theorem dp_all (way : Int) : ∀ (A R : Line) (found : List Line), DP way R found → DP way (R ++ A) (A.foldl (stepF way) found)
  | [], R, found, h => by simpa using h
  | a :: A, R, found, h => by
    have := dp_all way A (R ++ [a]) (stepF way found a) (h.step a)
    rw [List.append_assoc] at this
    exact this
theorem long_ok (as : Line) (spot way : Int) : ((longF as spot way).Sublist (overF spot as) ∧ Chain way (longF as spot way)) ∧ ∀ c : Line, c.Sublist (overF spot as) → Chain way c → ltK (keyL c) (keyL (longF as spot way)) = false := by
  have h0 : DP way [] [] := ⟨fun f hf => (by cases hf), fun c hc hs _ => absurd (List.sublist_nil.mp hs) hc⟩
  have h := dp_all way (overF spot as) [] [] h0
  rw [List.nil_append] at h
  have hb := best_ok (L := (overF spot as).foldl (stepF way) [] ++ [[]]) (by simp)
  refine ⟨?_, fun c hs hch => ?_⟩
  · unfold longF
    rcases List.mem_append.mp hb.1 with hm | hm
    · exact (h.snd _ hm).2
    · rw [List.mem_singleton] at hm
      rw [hm]
      exact ⟨List.nil_sublist _, by unfold Chain; simp⟩
  · unfold longF
    by_cases hc : c = []
    · subst hc
      exact hb.2 _ (List.mem_append_right _ (List.mem_singleton.mpr rfl))
    · obtain ⟨f, h1, _, h3⟩ := h.dom c hc hs hch
      exact lord_K.ntr h3 (hb.2 f (List.mem_append_left _ h1))
theorem most_ok {m : Nat} {A : Line} (hA : Arcs m A) {way : Int} (hw : way = 1 ∨ way = -1) : Best (Lot way A) (mostF A m way) := by
  have hb := best_ok (L := (rangeL m).map (fun s => longF A s way) ++ [[]]) (by simp)
  refine ⟨?_, fun y hy => ?_⟩
  · unfold mostF
    rcases List.mem_append.mp hb.1 with hm | hm
    · obtain ⟨s, _, e⟩ := List.mem_map.mp hm
      rw [← e]
      obtain ⟨⟨h1, h2⟩, _⟩ := long_ok A s way
      have hsub : (longF A s way).Sublist A := h1.trans List.filter_sublist
      refine ⟨hsub, ?_⟩
      have hs := hA.srt.sublist hsub
      have hov : ∀ p ∈ longF A s way, p.1 ≤ s ∧ s < p.2 := fun p hp => by
        have := (List.mem_filter.mp (h1.subset hp)).2
        rw [Bool.and_eq_true, decide_eq_true_eq, decide_eq_true_eq] at this
        exact this
      have := (hs.and h2)
      refine List.Pairwise.imp_of_mem ?_ this
      intro p q hp hq h
      obtain ⟨h3, h4⟩ := h
      have o1 := hov p hp
      have o2 := hov q hq
      unfold lawDo
      rcases hw with rfl | rfl
      · rw [if_pos rfl, Bool.and_eq_true, decide_eq_true_eq, decide_eq_true_eq]; omega
      · rw [if_neg (by decide), decide_eq_true_eq]; omega
    · rw [List.mem_singleton] at hm
      rw [hm]
      exact ⟨List.nil_sublist _, by simp⟩
  · unfold mostF
    by_cases hn : y = []
    · subst hn
      exact hb.2 _ (List.mem_append_right _ (List.mem_singleton.mpr rfl))
    · obtain ⟨hs, hp⟩ := hy
      have hlm := last_mem hn
      have hv := hA.val _ (hs.subset hlm)
      have hys := hA.srt.sublist hs
      have hov : ∀ p ∈ y, p.1 ≤ (lastA y).1 ∧ (lastA y).1 < p.2 := by
        obtain ⟨y', e⟩ := snoc_of hn
        intro p hpm
        rw [e] at hpm
        rw [e, List.pairwise_append] at hys hp
        rcases List.mem_append.mp hpm with hpm | hpm
        · have q1 := hys.2.2 p hpm _ List.mem_cons_self
          have q2 := hp.2.2 p hpm _ List.mem_cons_self
          unfold lawDo at q2
          rcases hw with rfl | rfl
          · rw [if_pos rfl, Bool.and_eq_true, decide_eq_true_eq, decide_eq_true_eq] at q2; omega
          · rw [if_neg (by decide), decide_eq_true_eq] at q2; omega
        · rw [List.mem_singleton] at hpm
          rw [hpm]; omega
      have hsub : y.Sublist (overF (lastA y).1 A) := by
        have := hs.filter (fun p => decide (p.1 ≤ (lastA y).1) && decide ((lastA y).1 < p.2))
        rw [List.filter_eq_self.mpr (fun p hp => by
          rw [Bool.and_eq_true, decide_eq_true_eq, decide_eq_true_eq]; exact hov p hp)] at this
        exact this
      have hch : Chain way y := hp.imp fun {p q} h => by
        unfold lawDo at h
        rcases hw with rfl | rfl
        · rw [if_pos rfl, Bool.and_eq_true, decide_eq_true_eq, decide_eq_true_eq] at h; omega
        · rw [if_neg (by decide), decide_eq_true_eq] at h; omega
      have h1 := (long_ok A (lastA y).1 way).2 y hsub hch
      refine lord_K.ntr h1 (hb.2 _ (List.mem_append_left _ (List.mem_map.mpr ⟨(lastA y).1, ?_, rfl⟩)))
      unfold rangeL
      refine List.mem_map.mpr ⟨((lastA y).1 - 1).toNat, List.mem_range.mpr (by omega), by omega⟩
end M
set_option Elab.async false
set_option linter.all false
set_option maxRecDepth 100000
set_option maxHeartbeats 4000000
namespace M
open PySem
variable {T : Nat → Option Def}
structure HR (T : Nat → Option Def) : Prop extends HL T where
  h77 : T 77 = some D__law_box_3
  h10 : T 10 = some D__law_cells
  h84 : T 84 = some D__law_right_3
  h85 : T 85 = some D_law_3
abbrev ev (P got arcs one two goods others lap own bads : Option D) : M.Env := [some (.ref 0), P, got, arcs, one, two, goods, others, lap, own, bads, none, none]
def st1 : MStmt := .asg (.n 1) (.ite (.cmp .gt (.call 9 (.cons (.var 0) (.cons (.con (.int 3)) .nil))) (.con (.int 0))) (.call 54 (.cons (.var 0) (.cons (.con (.int 12)) .nil))) (.call 55 (.cons (.var 0) (.cons (.con (.int 6)) .nil))))
theorem r1 (h : HR T) (k : Nat) (c : Nat) (t : List D) (ht : TinOK c t) (hc : c + 300 ≤ 1000000) :
    ∃ (t' : List D) (m : Nat) (P : List (List Int)), S (M.call T (k + 8)) 1 st1 (ev none none none none none none none none none none) [some t] = .nx (ev (some (eP P)) none none none none none none none none none) [some t'] ∧ m ≤ 12 ∧ Good m P ∧ TinOK (c + 300) t' := by
  obtain ⟨v, t1, e1, hv, ht1⟩ := s_take h.h9 (k + 7) c t [] 3 (by omega) ht (by omega) (by omega)
  obtain ⟨vi, hvi⟩ : ∃ vi : Int, vi = (v : Int) := ⟨_, rfl⟩
  rw [← hvi] at e1
  have e1 : M.call T (k + 8) 9 [.ref 0, .int 3] [some t] = .ok (.int vi, [some t1]) := e1
  by_cases h0 : 0 < vi
  · obtain ⟨t2, m, P, e2, hm, g, ht2⟩ := s_parting h.toHL (k + 5) (c + 1) t1 12 (by omega) ht1 (by omega)
    have e2 : M.call T (k + 8) 54 [.ref 0, .int 12] [some t1] = .ok (eP P, [some t2]) := e2
    refine ⟨t2, m, P, ?_, hm, g, ht2.mono (by omega)⟩
    simp only [st1, ev]
    simp [e1, h0, e2]
  · obtain ⟨t2, m, P, e2, hm, g, ht2⟩ := s_pairing h.toHL (k + 5) (c + 1) t1 6 (by omega) ht1 (by omega)
    have e2 : M.call T (k + 8) 55 [.ref 0, .int 6] [some t1] = .ok (eP P, [some t2]) := e2
    refine ⟨t2, m, P, ?_, hm, g, ht2.mono (by omega)⟩
    simp only [st1, ev]
    simp [e1, h0, e2]
def st2 : MStmt := .asg (.n 2) (.lst (.cons (.call 71 (.cons (.var 1) .nil)) (.cons (.call 72 (.cons (.call 51 (.cons (.var 1) .nil)) .nil)) (.cons (.call 73 (.cons (.var 1) .nil)) (.cons (.call 74 (.cons (.var 1) .nil)) .nil)))))
def gotD (A : Line) (m : Nat) : D := .lst [.int ((pairsL A).countP fun x => doB 1 x.1 x.2), .int ((pairsL A).countP fun x => doB (-1) x.1 x.2), eAs (mostF A m 1), eAs (mostF A m (-1))]
theorem r2 (h : HR T) (k : Nat) (t : List D) {m : Nat} (P : List (List Int)) (g : Good m P) (hm : m ≤ 12) :
    S (M.call T (k + 8)) 1 st2 (ev (some (eP P)) none none none none none none none none none) [some t] = .nx (ev (some (eP P)) (some (gotD (arcsOf P) m)) none none none none none none none none) [some t] := by
  have e1 : M.call T (k + 8) 71 [eP P] [some t] = _ := s_crossings h.toHA (k + 3) P [some t] g (by omega)
  have e2 : M.call T (k + 8) 51 [eP P] [some t] = _ := s_lists h.h51 (k + 5) P [some t]
  have e3 : M.call T (k + 8) 72 [lP P] [some t] = _ := s_nestingsL h.toHA (k + 3) P [some t] g (by omega)
  have e4 : M.call T (k + 8) 73 [eP P] [some t] = _ := s_most_c h.toHA (k + 3) P [some t] g (by omega)
  have e5 : M.call T (k + 8) 74 [eP P] [some t] = _ := s_most_n h.toHA (k + 3) P [some t] g (by omega)
  simp only [st2, ev]
  simp [e1, e2, e3, e4, e5, gotD]
def st3 : MStmt := .ite (.bnot (.call 13 (.cons (.var 2) (.cons (.lst (.cons (.call 81 (.cons (.var 1) (.cons (.con (.int 1)) .nil))) (.cons (.call 81 (.cons (.var 1) (.cons (.neg (.con (.int 1))) .nil))) (.cons (.call 83 (.cons (.var 1) (.cons (.con (.int 1)) .nil))) (.cons (.call 83 (.cons (.var 1) (.cons (.neg (.con (.int 1))) .nil))) .nil))))) .nil)))) [.ret (.con (.bl false))] []
theorem best_len {A l : Line} {way : Int} (h : Best (Lot way A) l) : l.length ≤ A.length := h.1.1.length_le
theorem r3 (h : HR T) (k : Nat) (t : List D) {m : Nat} (P : List (List Int)) (g : Good m P) (hm : m ≤ 12) :
    S (M.call T (k + 8)) 1 st3 (ev (some (eP P)) (some (gotD (arcsOf P) m)) none none none none none none none none) [some t] = .nx (ev (some (eP P)) (some (gotD (arcsOf P) m)) none none none none none none none none) [some t] := by
  have hA := arcs_ok g
  have hal : (arcsOf P).length ≤ 12 := by
    unfold arcsOf
    rw [(List.mergeSort_perm _ _).length_eq]
    have := raw_len P; rw [g.len] at this; omega
  have e1 : M.call T (k + 8) 81 [eP P, .int 1] [some t] = _ := s_law_count h.toHL (k + 5) P 1 [some t] g (by omega) hA
  have e2 : M.call T (k + 8) 81 [eP P, .int (-1)] [some t] = _ := s_law_count h.toHL (k + 5) P (-1) [some t] g (by omega) hA
  rw [← count_eq hA (.inl rfl)] at e1
  rw [← count_eq hA (.inr rfl)] at e2
  obtain ⟨x1, b1, e3⟩ := s_law_most h.toHL (k + 5) P 1 [some t] g (by omega) hA (by omega)
  obtain ⟨x2, b2, e4⟩ := s_law_most h.toHL (k + 5) P (-1) [some t] g (by omega) hA (by omega)
  have b1' : Best (Lot 1 (arcsOf P)) x1 := ⟨(mem_lots _ _ _).mp b1.1, fun y hy => b1.2 y ((mem_lots _ _ _).mpr hy)⟩
  have b2' : Best (Lot (-1) (arcsOf P)) x2 := ⟨(mem_lots _ _ _).mp b2.1, fun y hy => b2.2 y ((mem_lots _ _ _).mpr hy)⟩
  have m1 := most_ok hA (way := 1) (.inl rfl)
  have m2 := most_ok hA (way := -1) (.inr rfl)
  rw [b1'.uniq m1] at e3
  rw [b2'.uniq m2] at e4
  have e3 : M.call T (k + 8) 83 [eP P, .int 1] [some t] = _ := e3
  have e4 : M.call T (k + 8) 83 [eP P, .int (-1)] [some t] = _ := e4
  have hs : SameOK T 4 (gotD (arcsOf P) m) := same_lst h.h13 (fun x hx => by
    simp only [List.mem_cons, List.not_mem_nil, or_false] at hx
    rcases hx with rfl | rfl | rfl | rfl
    · exact (same_int h.h13 _).mono (by decide)
    · exact (same_int h.h13 _).mono (by decide)
    · exact same_eAs h.h13 _ (by have := best_len m1; omega)
    · exact same_eAs h.h13 _ (by have := best_len m2; omega)) (by show 4 ≤ 1000000; decide)
  have e5 : M.call T (k + 8) 13 [gotD (arcsOf P) m, gotD (arcsOf P) m] [some t] = _ := hs (k + 4) [some t]
  simp only [st3, ev]
  simp [e1, e2, e3, e4]
  simp only [gotD] at e5 ⊢
  simp [e5]
def st4 : MStmt := .asg (.n 3) (.call 40 (.cons (.var 1) .nil))
theorem r4 (h : HR T) (k : Nat) (t : List D) (got : D) {m : Nat} (P : List (List Int)) (g : Good m P) (hm : m ≤ 12) :
    S (M.call T (k + 8)) 1 st4 (ev (some (eP P)) (some got) none none none none none none none none) [some t] = .nx (ev (some (eP P)) (some got) (some (eAs (arcsOf P))) none none none none none none none) [some t] := by
  have e1 : M.call T (k + 8) 40 [eP P] [some t] = _ := s_arcs_of h.toHA (k + 3) P [some t] g (by omega)
  simp only [st4, ev]
  simp [e1]
end M
set_option Elab.async false
set_option linter.all false
set_option maxRecDepth 100000
set_option maxHeartbeats 4000000
namespace M
open PySem
variable {T : Nat → Option Def}
def bd5 : List MStmt := [.ite (.band (.cons (.cmp .eq (.lenset (.bin .add (.var 4) (.var 5))) (.con (.int 4))) (.cons (.cmp .ne (.count (.lst (.cons (.call 80 (.cons (.var 4) (.cons (.var 5) (.cons (.con (.int 1)) .nil)))) (.cons (.call 80 (.cons (.var 4) (.cons (.var 5) (.cons (.neg (.con (.int 1))) .nil)))) (.cons (.bor (.cons (.cmp .lt (.idx (.var 4) (.con (.int 1))) (.idx (.var 5) (.con (.int 0)))) (.cons (.cmp .lt (.idx (.var 5) (.con (.int 1))) (.idx (.var 4) (.con (.int 0)))) .nil))) .nil)))) (.con (.bl true))) (.con (.int 1))) .nil))) [.ret (.con (.bl false))] []]
def st5 : MStmt := .loop (.t [4, 5]) (.over (.call 79 (.cons (.var 3) .nil))) bd5
theorem count3 (a b c : Bool) : countF (.lst [.bl a, .bl b, .bl c]) (.bl true) = some (.int ((if a then 1 else 0) + (if b then 1 else 0) + (if c then 1 else 0))) := by
  cases a <;> cases b <;> cases c <;> rfl
theorem loopF_t (cl : Calls) (b : Nat) (ρ : M.Env) (τ : Store) (is : List Nat) (body : List MStmt) (d : D) {ρ' : M.Env} (h : setTgt ρ (.t is) d = some ρ') : loopF cl b (.t is) body d ρ τ = SL cl b body ρ' τ := by
  unfold loopF; rw [h]
theorem b5 (h : HR T) (k : Nat) (t : List D) (P got arcs o1 o2 : Option D) (p q : Int × Int) (hpq : p.1 < q.1) (hp : p.1 < p.2) (hq : q.1 < q.2) :
    loopF (M.call T (k + 8)) 1 (.t [4, 5]) bd5 (ePr (p, q)) (ev P got arcs o1 o2 none none none none none) [some t] = .nx (ev P got arcs (some (eA p)) (some (eA q)) none none none none none) [some t] := by
  have e1 : M.call T (k + 8) 80 [eA p, eA q, .int 1] [some t] = _ := s_do h.toHL (k + 7) p q 1 [some t] hpq hp hq
  have e2 : M.call T (k + 8) 80 [eA p, eA q, .int (-1)] [some t] = _ := s_do h.toHL (k + 7) p q (-1) [some t] hpq hp hq
  have hs := set_pq [p.1, p.2, q.1, q.2] (by show 4 ≤ 1000; decide)
  rw [loopF_t (ρ' := ev P got arcs (some (eA p)) (some (eA q)) none none none none none) (h := rfl)]
  simp only [bd5, ev]
  generalize hn : (dedupI [p.1, p.2, q.1, q.2]).length = n at hs
  obtain ⟨ni, hni⟩ : ∃ ni : Int, ni = (n : Int) := ⟨_, rfl⟩
  rw [← hni] at hs
  by_cases h4 : n = 4
  · have hni : ni = 4 := by omega
    subst hni
    have hne1 : p.2 ≠ q.1 := fun e => by
      have := dedup_few (a := p.1) (l := [p.2, q.1, q.2]) (m := [q.1, q.2]) (by rw [e]; simp [dedupI]) (Nat.le_refl _)
      omega
    have hne2 : p.2 ≠ q.2 := fun e => by
      have := dedup_few (a := p.1) (l := [p.2, q.1, q.2]) (m := [q.1, q.2]) (by rw [e]; simp [dedupI]) (Nat.le_refl _)
      omega
    have hc : ((if lawDo 1 p q = true then (1 : Int) else 0) + (if lawDo (-1) p q = true then 1 else 0) + (if (decide (p.2 < q.1) || decide (q.2 < p.1)) = true then 1 else 0)) = 1 := by
      have l1 : lawDo 1 p q = (decide (q.1 < p.2) && decide (p.2 < q.2)) := by simp [lawDo]
      have l2 : lawDo (-1) p q = decide (q.2 < p.2) := by simp [lawDo]
      rw [l1, l2]
      rcases Int.lt_trichotomy p.2 q.1 with a | a | a
      · have x1 : ¬ (q.1 < p.2) := by omega
        have x2 : ¬ (q.2 < p.2) := by omega
        simp [a, x1, x2]
      · exact absurd a hne1
      · rcases Int.lt_trichotomy p.2 q.2 with b | b | b
        · have x1 : ¬ (p.2 < q.1) := by omega
          have x2 : ¬ (q.2 < p.2) := by omega
          have x3 : ¬ (q.2 < p.1) := by omega
          simp [a, b, x1, x2, x3]
        · exact absurd b hne2
        · have x1 : ¬ (p.2 < q.1) := by omega
          have x2 : ¬ (p.2 < q.2) := by omega
          have x3 : ¬ (q.2 < p.1) := by omega
          simp [a, b, x1, x2, x3]
    have hor : (if p.2 < q.1 then (Out.ok (D.bl (decide (p.2 < q.1)), [some t]) : Out (D × Store)) else .ok (.bl (decide (q.2 < p.1)), [some t])) = .ok (.bl (decide (p.2 < q.1) || decide (q.2 < p.1)), [some t]) := by
      by_cases x : p.2 < q.1
      · rw [if_pos x]; simp [x]
      · rw [if_neg x]; simp [x]
    simp [add_pq, -List.map_cons, hs, e1, e2, isL]
    rw [hor]
    simp only [Out.bind_ok]
    rw [if_pos (by show 3 ≤ 1000000; decide)]
    simp only [Out.bind_ok, hd_lst, ofO_some, count3, hc, hd_int, peq_int, Option.map_some, Out_to_ok', hd_blS, tru_blS]
    simp
  · have hni : ni ≠ 4 := by omega
    simp [add_pq, -List.map_cons, hs, hni]
theorem l5 (h : HR T) (k : Nat) (t : List D) (P got arcs : Option D) : ∀ (xs : List ((Int × Int) × (Int × Int))) (o1 o2 : Option D), (∀ x ∈ xs, x.1.1 < x.2.1 ∧ x.1.1 < x.1.2 ∧ x.2.1 < x.2.2) →
    ∃ o1' o2', forLoop none (loopF (M.call T (k + 8)) 1 (.t [4, 5]) bd5) (xs.map ePr) (ev P got arcs o1 o2 none none none none none) [some t] = .nx (ev P got arcs o1' o2' none none none none none) [some t]
  | [], o1, o2, _ => ⟨o1, o2, by simp⟩
  | x :: xs, o1, o2, hx => by
    obtain ⟨h1, h2, h3⟩ := hx x List.mem_cons_self
    have hb := b5 h k t P got arcs o1 o2 x.1 x.2 h1 h2 h3
    obtain ⟨o1', o2', e⟩ := l5 h k t P got arcs xs (some (eA x.1)) (some (eA x.2)) fun y hy => hx y (List.mem_cons_of_mem _ hy)
    refine ⟨o1', o2', ?_⟩
    rw [List.map_cons, forLoop_nx (w := none) hb trivial, e]
theorem r5 (h : HR T) (k : Nat) (t : List D) (P0 got : Option D) {m : Nat} (P : List (List Int)) (g : Good m P) (hm : m ≤ 12) :
    ∃ o1 o2, S (M.call T (k + 8)) 1 st5 (ev P0 got (some (eAs (arcsOf P))) none none none none none none none) [some t] = .nx (ev P0 got (some (eAs (arcsOf P))) o1 o2 none none none none none) [some t] := by
  have hA := arcs_ok g
  have hal := arcs_len g (show m ≤ 30 by omega)
  have e1 : M.call T (k + 8) 79 [eAs (arcsOf P)] [some t] = _ := s_law_pairs h.toHL (k + 6) true (arcsOf P) [some t] (by omega)
  obtain ⟨o1, o2, e2⟩ := l5 h k t P0 got (some (eAs (arcsOf P))) (pairsL (arcsOf P)) none none fun x hx => by
    obtain ⟨h1, h2, h3⟩ := pairs_mem hA.srt x hx
    exact ⟨h1, (hA.val _ h2).2.1, (hA.val _ h3).2.1⟩
  refine ⟨o1, o2, ?_⟩
  simp only [st5]
  simp [e1]
  simpa using e2
def st6 : MStmt := .asg (.t [6, 7]) (.tup (.cons (.call 82 (.cons (.var 1) (.cons (.con (.int 1)) .nil))) (.cons (.call 82 (.cons (.var 1) (.cons (.neg (.con (.int 1))) .nil))) .nil)))
def gl (way : Int) (P : List (List Int)) : D := .lst ((lots way (arcsOf P)).map eAs)
theorem arcs12 {m : Nat} {P : List (List Int)} (g : Good m P) (hm : m ≤ 12) : (arcsOf P).length ≤ 12 := by
  unfold arcsOf
  rw [(List.mergeSort_perm _ _).length_eq]
  have := raw_len P; rw [g.len] at this; omega
theorem r6 (h : HR T) (k : Nat) (t : List D) (got arcs o1 o2 : Option D) {m : Nat} (P : List (List Int)) (g : Good m P) (hm : m ≤ 12) :
    S (M.call T (k + 8)) 1 st6 (ev (some (eP P)) got arcs o1 o2 none none none none none) [some t] = .nx (ev (some (eP P)) got arcs o1 o2 (some (gl 1 P)) (some (gl (-1) P)) none none none) [some t] := by
  have hA := arcs_ok g
  have e1 : M.call T (k + 8) 82 [eP P, .int 1] [some t] = _ := s_all_lots h.toHL (k + 6) P 1 [some t] g (by omega) hA (by have := arcs12 g hm; omega)
  have e2 : M.call T (k + 8) 82 [eP P, .int (-1)] [some t] = _ := s_all_lots h.toHL (k + 6) P (-1) [some t] g (by omega) hA (by have := arcs12 g hm; omega)
  simp only [st6, ev]
  simp [e1, e2, setTgt, gl]
end M
set_option Elab.async false
set_option linter.all false
set_option maxRecDepth 100000
set_option maxHeartbeats 4000000
namespace M
open PySem
variable {T : Nat → Option Def}
def dA : D → Int × Int
  | .tup [.int a, .int b] => (a, b)
  | _ => (0, 0)
theorem dA_eA (p : Int × Int) : dA (eA p) = p := rfl
theorem sorted_sub : ∀ (A S : Line), (A.Pairwise fun p q => p.1 < q.1) → (S.Pairwise fun p q => p.1 < q.1) → (∀ p ∈ S, p ∈ A) → S.Sublist A
  | A, [], _, _, _ => List.nil_sublist _
  | [], s :: S, _, _, h => by have := h s List.mem_cons_self; cases this
  | a :: A, s :: S, hA, hS, h => by
    rw [List.pairwise_cons] at hA
    have hS2 := hS
    rw [List.pairwise_cons] at hS
    by_cases e : s = a
    · subst e
      refine (sorted_sub A S hA.2 hS.2 fun p hp => ?_).cons₂ s
      rcases List.mem_cons.mp (h p (List.mem_cons_of_mem _ hp)) with e2 | h2
      · have := hS.1 p hp
        rw [e2] at this
        omega
      · exact h2
    · refine (sorted_sub A (s :: S) hA.2 hS2 fun p hp => ?_).cons a
      rcases List.mem_cons.mp (h p hp) with e2 | h2
      · subst e2
        rcases List.mem_cons.mp hp with e3 | hp
        · exact absurd e3.symm e
        · have h1 := hS.1 p hp
          rcases List.mem_cons.mp (h s List.mem_cons_self) with e4 | h4
          · exact absurd e4 e
          · have := hA.1 s h4
            omega
      · exact h2
theorem perm_sub {A F R : Line} (hA : A.Pairwise fun p q => p.1 < q.1) (hp : (F ++ R).Perm A) : (F.mergeSort fun a b => !ltA b a).Sublist A := by
  have hm : ∀ p ∈ F, p ∈ A := fun p hp' => hp.mem_iff.mp (List.mem_append_left _ hp')
  have ndA : (A.map (·.1)).Nodup := by
    rw [List.Nodup, List.pairwise_map]
    exact hA.imp fun h => by omega
  have ndF : (F.map (·.1)).Nodup := by
    have h1 : ((F ++ R).map (·.1)).Nodup := ((hp.map _).nodup_iff).mpr ndA
    rw [List.map_append] at h1
    exact (List.nodup_append.mp h1).1
  have hps := List.mergeSort_perm F (fun a b => !ltA b a)
  refine sorted_sub A _ hA ?_ fun p hp' => hm p (hps.mem_iff.mp hp')
  have hs := List.pairwise_mergeSort (le := fun a b : Int × Int => !ltA b a) (fun a b c h1 h2 => by
      simp only [Bool.not_eq_true'] at *
      exact lord_A.ntr h2 h1) (fun a b => by
      cases h : ltA b a with
      | false => simp
      | true =>
        cases h2 : ltA a b with
        | false => simp
        | true => have := lord_A.tr _ _ _ h h2; rw [lord_A.ir] at this; cases this) F
  have n1 : ((F.mergeSort fun a b => !ltA b a).map (·.1)).Nodup := ((hps.map _).nodup_iff).mpr ndF
  have n1' := List.pairwise_map.mp n1
  refine (hs.and n1').imp fun {p q} h => ?_
  obtain ⟨h1, h2⟩ := h
  simp only [Bool.not_eq_true'] at h1
  unfold ltA ltPr at h1
  rw [if_neg (fun e => h2 e.symm)] at h1
  have := of_decide_eq_false h1
  omega
theorem pairs_all {α : Type} {f : α → α → Bool} : ∀ l : List α, ((pairsL l).all fun x => f x.1 x.2) = true ↔ l.Pairwise fun p q => f p q = true
  | [] => by simp [pairsL]
  | x :: l => by
    simp only [pairsL, List.all_append, Bool.and_eq_true, List.pairwise_cons]
    rw [pairs_all l, List.all_map, List.all_eq_true]
    rfl
theorem dedup_nodup : ∀ {l : List Int}, l.Nodup → dedupI l = l
  | [], _ => rfl
  | x :: l, h => by
    rw [List.nodup_cons] at h
    unfold dedupI
    rw [if_neg h.1, dedup_nodup h.2]
theorem lot_eq {m : Nat} {P : List (List Int)} (g : Good m P) {Sb : Line} (hs : Sb.Sublist (arcsOf P)) {way : Int} (hw : way = 1 ∨ way = -1) : lotB P m Sb way = decide (Sb ∈ lots way (arcsOf P)) := by
  have hA := arcs_ok g
  have hsr := hA.srt.sublist hs
  have h1 : arcsInB (m : Int) Sb = true := by
    unfold arcsInB
    rw [Bool.and_eq_true, Bool.and_eq_true]
    refine ⟨List.all_eq_true.mpr fun p hp => ?_, ascB_of ?_, decide_eq_true ?_⟩
    · have := hA.val p (hs.subset hp)
      simp [this]
    · rw [List.pairwise_map]; exact hsr
    · rw [dedup_nodup ((hs.map _).nodup hA.rts), List.length_map]
  have h2 : (Sb.all fun p => decide (p ∈ arcsOf P)) = true := List.all_eq_true.mpr fun p hp => decide_eq_true (hs.subset hp)
  unfold lotB
  rw [h1, h2, Bool.true_and, Bool.true_and, Bool.eq_iff_iff, pairs_all, decide_eq_true_eq, mem_lots]
  unfold Lot
  constructor
  · intro h
    exact ⟨hs, (hsr.and h).imp fun {p q} x => by rw [← do_eq hw x.1]; exact x.2⟩
  · intro h
    exact (hsr.and h.2).imp fun {p q} x => by rw [do_eq hw x.1]; exact x.2
theorem in_lots (l : Line) (L : List Line) : inF (eAs l) (.lst (L.map eAs)) = some (decide (l ∈ L)) := by
  have hE : Eqv 2 eAs (tupP pA) := ord_A.toEqv.tup
  have h1 : M.py (eAs l) = some (tupP pA l) := hE.py l
  have h2 : pyL (L.map eAs) = some (L.map (tupP pA)) := pyL_map hE.py L
  have h3 : SeqAt.shaped (.list (L.map (tupP pA))) = true := hE.lst.sh (by decide) L
  simp only [inF, h1, h2, Option.bind_some]
  rw [if_pos ⟨hE.sh (by decide) l, h3⟩]
  congr 1
  rw [Bool.eq_iff_iff, List.any_eq_true, decide_eq_true_eq]
  constructor
  · rintro ⟨x, hx, e⟩
    obtain ⟨q, hq, rfl⟩ := List.mem_map.mp hx
    rw [(hE.eq q l).mp e] at hq
    exact hq
  · intro hp
    exact ⟨_, List.mem_map_of_mem hp, (hE.eq l l).mpr rfl⟩
def bd7 : List MStmt := [.asg (.n 9) (.blt .tuple (.blt .sorted (.call 50 (.cons (.var 0) (.cons (.blt .list (.var 3)) (.cons (.call 9 (.cons (.var 0) (.cons (.con (.int 4)) .nil))) .nil)))))), .ite (.bnot (.call 13 (.cons (.lst (.cons (.call 75 (.cons (.var 1) (.cons (.var 9) .nil))) (.cons (.call 76 (.cons (.var 1) (.cons (.var 9) .nil))) .nil))) (.cons (.lst (.cons (.cmp .in_ (.var 9) (.var 6)) (.cons (.cmp .in_ (.var 9) (.var 7)) .nil))) .nil)))) [.ret (.con (.bl false))] []]
def st7 : MStmt := .loop (.n 8) (.range1 (.con (.int 4))) bd7
theorem b7 (h : HR T) (k : Nat) (c : Nat) (t : List D) (got o1 o2 lap own : Option D) (x : D) {m : Nat} (P : List (List Int)) (g : Good m P) (hm : m ≤ 12) (ht : TinOK c t) (hc : c + 200 ≤ 1000000) :
    ∃ (t' : List D) (own' : D), loopF (M.call T (k + 8)) 1 (.n 8) bd7 x (ev (some (eP P)) got (some (eAs (arcsOf P))) o1 o2 (some (gl 1 P)) (some (gl (-1) P)) lap own none) [some t] = .nx (ev (some (eP P)) got (some (eAs (arcsOf P))) o1 o2 (some (gl 1 P)) (some (gl (-1) P)) (some x) (some own') none) [some t'] ∧ TinOK (c + 200) t' := by
  have hA := arcs_ok g
  have hal := arcs12 g hm
  obtain ⟨v, t1, e1, hv, ht1⟩ := s_take h.h9 (k + 7) c t [] 4 (by omega) ht (by omega) (by omega)
  obtain ⟨t2, found, rest, e2, hp, ht2, _⟩ := s_pick h.toHL (k + 6) (c + 1) t1 ((arcsOf P).map eA) v (by rw [List.length_map]; omega) (fun y hy => by
    obtain ⟨p, _, rfl⟩ := List.mem_map.mp hy; rfl) ht1 (by omega) (by omega)
  have hall : ∀ y ∈ found ++ rest, eA (dA y) = y := fun y hy => by
    obtain ⟨p, _, rfl⟩ := List.mem_map.mp (hp.mem_iff.mp hy); rfl
  have hF : found = (found.map dA).map eA := by
    rw [List.map_map]
    conv => lhs; rw [← List.map_id found]
    exact List.map_congr_left fun y hy => (hall y (List.mem_append_left _ hy)).symm
  have hpF : (found.map dA ++ rest.map dA).Perm (arcsOf P) := by
    have := hp.map dA
    rw [List.map_append, List.map_map] at this
    have e : (arcsOf P).map (dA ∘ eA) = arcsOf P := by
      conv => rhs; rw [← List.map_id (arcsOf P)]
      exact List.map_congr_left fun y _ => rfl
    rw [e] at this
    exact this
  have hsub := perm_sub hA.srt hpF
  generalize hS : ((found.map dA).mergeSort fun a b => !ltA b a) = Sb at hsub
  have hso : bltF .sorted (.lst found) = some (.lst (Sb.map eA)) := by
    rw [hF]
    have := sort_A (found.map dA)
    rw [hS] at this
    exact this
  have hSl : Sb.length ≤ 12 := Nat.le_trans hsub.length_le hal
  have e3 : M.call T (k + 8) 75 [eP P, eAs Sb] [some t2] = _ := s_all_c h.toHA (k + 3) P (eAs Sb) _ [some t2] g (by omega) (s_lot h.toHA (k + 3) P Sb 1 [some t2] g (by omega) (by omega))
  have e4 : M.call T (k + 8) 76 [eP P, eAs Sb] [some t2] = _ := s_all_n h.toHA (k + 3) P (eAs Sb) _ [some t2] g (by omega) (s_lot h.toHA (k + 3) P Sb (-1) [some t2] g (by omega) (by omega))
  rw [lot_eq g hsub (.inl rfl)] at e3
  rw [lot_eq g hsub (.inr rfl)] at e4
  have hsame : SameOK T 2 (.lst [.bl (decide (Sb ∈ lots 1 (arcsOf P))), .bl (decide (Sb ∈ lots (-1) (arcsOf P)))]) := same_lst h.h13 (fun y hy => by
    simp only [List.mem_cons, List.not_mem_nil, or_false] at hy
    rcases hy with rfl | rfl <;> exact same_bl h.h13 _) (by show 2 ≤ 1000000; decide)
  have e5 : M.call T (k + 8) 13 [_, _] [some t2] = _ := hsame (k + 6) [some t2]
  have e1 : M.call T (k + 8) 9 [.ref 0, .int 4] [some t] = .ok (.int (v : Int), [some t1]) := e1
  have e2 : M.call T (k + 8) 50 [.ref 0, .lst ((arcsOf P).map eA), .int (v : Int)] [some t1] = .ok (.lst found, [some t2]) := e2
  obtain ⟨vi, hvi⟩ : ∃ vi : Int, vi = (v : Int) := ⟨_, rfl⟩
  rw [← hvi] at e1 e2
  refine ⟨t2, eAs Sb, ?_, ht2.mono (by omega)⟩
  have hli : bltF .list (eAs (arcsOf P)) = some (.lst ((arcsOf P).map eA)) := rfl
  have htu : D.tup (Sb.map eA) = eAs Sb := rfl
  have i1 : inF (eAs Sb) (gl 1 P) = _ := in_lots Sb (lots 1 (arcsOf P))
  have i2 : inF (eAs Sb) (gl (-1) P) = _ := in_lots Sb (lots (-1) (arcsOf P))
  have hg : ∀ (w : Int) (τ : Store), hd τ (gl w P) = gl w P := fun _ _ => rfl
  rw [loopF_n]
  simp only [bd7, ev]
  simp [e1, hli, e2, hso, htu, e3, e4, hg, i1, i2, e5]
theorem l7 (h : HR T) (k : Nat) (got o1 o2 : Option D) {m : Nat} (P : List (List Int)) (g : Good m P) (hm : m ≤ 12) : ∀ (xs : List D) (c : Nat) (t : List D) (lap own : Option D), TinOK c t → c + 200 * xs.length ≤ 1000000 →
    ∃ (t' : List D) (lap' own' : Option D), forLoop none (loopF (M.call T (k + 8)) 1 (.n 8) bd7) xs (ev (some (eP P)) got (some (eAs (arcsOf P))) o1 o2 (some (gl 1 P)) (some (gl (-1) P)) lap own none) [some t] = .nx (ev (some (eP P)) got (some (eAs (arcsOf P))) o1 o2 (some (gl 1 P)) (some (gl (-1) P)) lap' own' none) [some t'] ∧ TinOK (c + 200 * xs.length) t'
  | [], c, t, lap, own, ht, _ => ⟨t, lap, own, by simp, ht⟩
  | x :: xs, c, t, lap, own, ht, hc => by
    rw [List.length_cons] at hc
    obtain ⟨t1, own1, e1, ht1⟩ := b7 h k c t got o1 o2 lap own x P g hm ht (by omega)
    obtain ⟨t2, lap2, own2, e2, ht2⟩ := l7 h k got o1 o2 P g hm xs (c + 200) t1 (some x) (some own1) ht1 (by omega)
    refine ⟨t2, lap2, own2, ?_, ht2.mono (by rw [List.length_cons]; omega)⟩
    rw [forLoop_nx (w := none) e1 trivial, e2]
theorem r7 (h : HR T) (k : Nat) (c : Nat) (t : List D) (got o1 o2 : Option D) {m : Nat} (P : List (List Int)) (g : Good m P) (hm : m ≤ 12) (ht : TinOK c t) (hc : c + 800 ≤ 1000000) :
    ∃ (t' : List D) (lap' own' : Option D), S (M.call T (k + 8)) 1 st7 (ev (some (eP P)) got (some (eAs (arcsOf P))) o1 o2 (some (gl 1 P)) (some (gl (-1) P)) none none none) [some t] = .nx (ev (some (eP P)) got (some (eAs (arcsOf P))) o1 o2 (some (gl 1 P)) (some (gl (-1) P)) lap' own' none) [some t'] ∧ TinOK (c + 800) t' := by
  obtain ⟨t', lap', own', e, ht'⟩ := l7 h k got o1 o2 P g hm (intRange 0 4) c t none none ht (by
    have : (intRange 0 4).length = 4 := rfl
    omega)
  refine ⟨t', lap', own', ?_, ht'⟩
  have hr : rOk1 4 := rOk1_of (by omega) (by omega)
  simp only [st7]
  simp [rIt1_ok hr]
  exact e
end M
set_option Elab.async false
set_option linter.all false
set_option maxRecDepth 100000
set_option maxHeartbeats 4000000
namespace M
open PySem
variable {T : Nat → Option Def}
theorem lots_len (way : Int) : ∀ (A : Line) (f : List Line), (A.foldl (lotStep way) f).length ≤ f.length * 2 ^ A.length
  | [], f => by simp
  | a :: A, f => by
    rw [List.foldl_cons, List.length_cons]
    have h1 := lots_len way A (lotStep way f a)
    have h2 : (lotStep way f a).length ≤ 2 * f.length := by
      unfold lotStep
      rw [List.length_append, List.length_map]
      have := List.length_filter_le (fun its : Line => its.all fun one => lawDo way one a) f
      omega
    have h3 : (lotStep way f a).length * 2 ^ A.length ≤ 2 * f.length * 2 ^ A.length := Nat.mul_le_mul_right _ h2
    have h4 : 2 * f.length * 2 ^ A.length = f.length * 2 ^ (A.length + 1) := by
      rw [Nat.pow_succ, Nat.mul_comm 2 f.length, Nat.mul_assoc, Nat.mul_comm 2]
    omega
theorem lots_small {m : Nat} {P : List (List Int)} (g : Good m P) (hm : m ≤ 12) (way : Int) : (lots way (arcsOf P)).length ≤ 4096 := by
  have h := lots_len way (arcsOf P) [[]]
  have h2 : 2 ^ (arcsOf P).length ≤ 2 ^ 12 := Nat.pow_le_pow_right (by decide) (arcs12 g hm)
  have h3 : (2 : Nat) ^ 12 = 4096 := rfl
  rw [List.length_singleton] at h
  unfold lots
  omega
def lcA : MExpr := .lc (.var 11) (.t [11, 12]) (.over (.var 9)) .none [("a", 11), ("b", 12)]
def lcB : MExpr := .lc (.var 12) (.t [11, 12]) (.over (.var 9)) .none [("a", 11), ("b", 12)]
def bd8 : List MStmt := [.ite (.band (.cons (.cmp .gt (.blt .len (.var 9)) (.con (.int 1))) (.cons (.bor (.cons (.cmp .ge (.blt .max lcA) (.blt .min lcB)) (.cons (.cmp .ne lcB (.blt .sorted lcB)) .nil))) .nil))) [.ret (.con (.bl false))] []]
def bd9 : List MStmt := [.ite (.band (.cons (.cmp .gt (.blt .len (.var 9)) (.con (.int 1))) (.cons (.cmp .ne lcB (.sortR lcB)) .nil))) [.ret (.con (.bl false))] []]
theorem e_lcA (cl : Calls) (P got arcs o1 o2 gs os lap : Option D) (l : Line) (τ : Store) : E cl 1 lcA (ev P got arcs o1 o2 gs os lap (some (eAs l)) none) τ = .ok (.lst ((l.map (·.1)).map D.int), τ) := by
  have hit : items (eAs l) = some (l.map eA) := rfl
  unfold lcA
  simp only [ev]
  simp [hit, -List.map_map]
  rw [lcOut_map (F := fun p : Int × Int => D.int p.1)]
  rotate_left
  · intro p hp
    simp [lcTurn, wipeE, setTgt, eA]
  rw [List.map_map]; rfl
theorem e_lcB (cl : Calls) (P got arcs o1 o2 gs os lap : Option D) (l : Line) (τ : Store) : E cl 1 lcB (ev P got arcs o1 o2 gs os lap (some (eAs l)) none) τ = .ok (.lst ((l.map (·.2)).map D.int), τ) := by
  have hit : items (eAs l) = some (l.map eA) := rfl
  unfold lcB
  simp only [ev]
  simp [hit, -List.map_map]
  rw [lcOut_map (F := fun p : Int × Int => D.int p.2)]
  rotate_left
  · intro p hp
    simp [lcTurn, wipeE, setTgt, eA]
  rw [List.map_map]; rfl
theorem b8 (cl : Calls) (P got arcs o1 o2 gs os lap o : Option D) (l : Line) (τ : Store) (h : l.Pairwise fun p q => lawDo 1 p q = true) (hs : l.Pairwise fun p q => p.1 < q.1) (hv : ∀ p ∈ l, p.1 < p.2) :
    loopF cl 1 (.n 9) bd8 (eAs l) (ev P got arcs o1 o2 gs os lap o none) τ = .nx (ev P got arcs o1 o2 gs os lap (some (eAs l)) none) τ := by
  have hle : bltF .len (eAs l) = some (.int (l.length : Int)) := by simp [eAs]
  have ha := e_lcA cl P got arcs o1 o2 gs os lap l τ
  have hb := e_lcB cl P got arcs o1 o2 gs os lap l τ
  obtain ⟨n, hn⟩ : ∃ n : Int, n = (l.length : Int) := ⟨_, rfl⟩
  rw [← hn] at hle
  rw [loopF_n]
  have e0 : (ev P got arcs o1 o2 gs os lap o none).set 9 (some (eAs l)) = ev P got arcs o1 o2 gs os lap (some (eAs l)) none := rfl
  rw [e0]
  have h9 : (ev P got arcs o1 o2 gs os lap (some (eAs l)) none)[9]? = some (some (eAs l)) := rfl
  by_cases h1 : 1 < n
  · cases l with
    | nil => simp at hn; omega
    | cons x r =>
      have hmax := max_map ord_int (by decide) (fun a => rfl) x.1 (r.map (·.1))
      have hmin := min_map ord_int (by decide) (fun a => rfl) x.2 (r.map (·.2))
      have m1 := maxL_mem (lt := fun a b : Int => decide (a < b)) (r.map (·.1)) x.1
      have m2 := minL_mem (lt := fun a b : Int => decide (a < b)) (r.map (·.2)) x.2
      rw [← List.map_cons (f := fun p : Int × Int => p.1)] at m1 hmax
      rw [← List.map_cons (f := fun p : Int × Int => p.2)] at m2 hmin
      have hlt : maxL (fun a b : Int => decide (a < b)) x.1 (r.map (·.1)) < minL (fun a b : Int => decide (a < b)) x.2 (r.map (·.2)) := by
        obtain ⟨p, hp, e1⟩ := List.mem_map.mp m1
        obtain ⟨q, hq, e2⟩ := List.mem_map.mp m2
        rw [← e1, ← e2]
        have hall : ∀ p ∈ x :: r, ∀ q ∈ x :: r, p.1 < q.2 := by
          have hpw : (x :: r).Pairwise fun p q => p.1 < q.2 ∧ q.1 < p.2 := (hs.and h).imp_of_mem fun {p q} hp hq z => by
            have z2 := z.2
            unfold lawDo at z2
            rw [if_pos rfl, Bool.and_eq_true, decide_eq_true_eq, decide_eq_true_eq] at z2
            have := hv q hq
            have := z.1
            omega
          intro p hp q hq
          by_cases e : p = q
          · subst e; exact hv p hp
          · rcases List.pairwise_iff_getElem.mp hpw with hpw
            obtain ⟨i, hi, ei⟩ := List.mem_iff_getElem.mp hp
            obtain ⟨j, hj, ej⟩ := List.mem_iff_getElem.mp hq
            rcases Nat.lt_trichotomy i j with hij | hij | hij
            · have := hpw i j hi hj hij
              rw [ei, ej] at this; exact this.1
            · subst hij; exact absurd (ei.symm.trans ej) e
            · have := hpw j i hj hi hij
              rw [ei, ej] at this; exact this.2
        exact hall p hp q hq
      have hpw2 : ((x :: r).map (·.2)).Pairwise (· ≤ ·) := by
        rw [List.pairwise_map]
        exact h.imp fun {p q} z => by
          unfold lawDo at z
          rw [if_pos rfl, Bool.and_eq_true, decide_eq_true_eq, decide_eq_true_eq] at z
          omega
      have hso : bltF .sorted (.lst (((x :: r).map (·.2)).map D.int)) = some (.lst (((x :: r).map (·.2)).map D.int)) := by
        have := sortF_ints ((x :: r).map (·.2))
        rw [sort_eq (List.Perm.refl _) hpw2] at this
        exact this
      have hpe : peq (.lst (((x :: r).map (·.2)).map D.int)) (.lst (((x :: r).map (·.2)).map D.int)) = some true := by
        have := eqv_int.lst.peq (by decide) ((x :: r).map (·.2)) ((x :: r).map (·.2))
        rw [decide_eq_true rfl] at this
        exact this
      have hge : ¬ (minL (fun a b : Int => decide (a < b)) x.2 (r.map (·.2)) ≤ maxL (fun a b : Int => decide (a < b)) x.1 (r.map (·.1))) := by omega
      have c1 : E cl 1 (.blt .len (.var 9)) (ev P got arcs o1 o2 gs os lap (some (eAs (x :: r))) none) τ = .ok (.int n, τ) := by
        rw [E_blt, E_var, h9]
        show (ofO (bltF .len (eAs (x :: r)))).bind (fun d => Out.ok (d, τ)) = _
        rw [hle]; rfl
      have c2 : E cl 1 (.blt .max lcA) (ev P got arcs o1 o2 gs os lap (some (eAs (x :: r))) none) τ = .ok (.int (maxL (fun a b : Int => decide (a < b)) x.1 (r.map (·.1))), τ) := by
        rw [E_blt, ha]
        simp only [Out.bind_ok, hd_lst, hmax, ofO_some]
      have c3 : E cl 1 (.blt .min lcB) (ev P got arcs o1 o2 gs os lap (some (eAs (x :: r))) none) τ = .ok (.int (minL (fun a b : Int => decide (a < b)) x.2 (r.map (·.2))), τ) := by
        rw [E_blt, hb]
        simp only [Out.bind_ok, hd_lst, hmin, ofO_some]
      have c4 : E cl 1 (.blt .sorted lcB) (ev P got arcs o1 o2 gs os lap (some (eAs (x :: r))) none) τ = .ok (.lst (((x :: r).map (·.2)).map D.int), τ) := by
        rw [E_blt, hb]
        simp only [Out.bind_ok, hd_lst, hso, ofO_some]
      simp only [bd8, SL_cons, SL_nil, S_ite, E_band, EAnd_cons, EAnd_one, E_bor, EOr_cons, EOr_one, E_cmp, c1, c2, c3, c4, hb, E_con, Out.bind_ok, hd_int, cmp_gt, cmp_ge, cmp_ne, hd_lst, hpe, ofO_some, Option.map_some, hd_blS, tru_blS]
      rw [decide_eq_true h1, decide_eq_false hge]
      simp
  · have c1 : E cl 1 (.blt .len (.var 9)) (ev P got arcs o1 o2 gs os lap (some (eAs l)) none) τ = .ok (.int n, τ) := by
      rw [E_blt, E_var, h9]
      show (ofO (bltF .len (eAs l))).bind (fun d => Out.ok (d, τ)) = _
      rw [hle]; rfl
    simp only [bd8, SL_cons, SL_nil, S_ite, E_band, EAnd_cons, EAnd_one, E_cmp, c1, E_con, Out.bind_ok, hd_int, cmp_gt, ofO_some, hd_blS, tru_blS]
    rw [decide_eq_false h1]
    simp
theorem b9 (cl : Calls) (P got arcs o1 o2 gs os lap o : Option D) (l : Line) (τ : Store) (h : l.Pairwise fun p q => lawDo (-1) p q = true) :
    loopF cl 1 (.n 9) bd9 (eAs l) (ev P got arcs o1 o2 gs os lap o none) τ = .nx (ev P got arcs o1 o2 gs os lap (some (eAs l)) none) τ := by
  have hle : bltF .len (eAs l) = some (.int (l.length : Int)) := by simp [eAs]
  have hb := e_lcB cl P got arcs o1 o2 gs os lap l τ
  obtain ⟨n, hn⟩ : ∃ n : Int, n = (l.length : Int) := ⟨_, rfl⟩
  rw [← hn] at hle
  rw [loopF_n]
  have e0 : (ev P got arcs o1 o2 gs os lap o none).set 9 (some (eAs l)) = ev P got arcs o1 o2 gs os lap (some (eAs l)) none := rfl
  rw [e0]
  have h9 : (ev P got arcs o1 o2 gs os lap (some (eAs l)) none)[9]? = some (some (eAs l)) := rfl
  have c1 : E cl 1 (.blt .len (.var 9)) (ev P got arcs o1 o2 gs os lap (some (eAs l)) none) τ = .ok (.int n, τ) := by
    rw [E_blt, E_var, h9]
    show (ofO (bltF .len (eAs l))).bind (fun d => Out.ok (d, τ)) = _
    rw [hle]; rfl
  have hpw2 : (l.map (·.2)).Pairwise (fun a b => b ≤ a) := by
    rw [List.pairwise_map]
    exact h.imp fun {p q} z => by
      unfold lawDo at z
      rw [if_neg (by decide), decide_eq_true_eq] at z
      omega
  have hso : sortRF (.lst ((l.map (·.2)).map D.int)) = some (.lst ((l.map (·.2)).map D.int)) := by
    have := sortR_map ord_int (by decide) (sortable_int (l.map (·.2)))
    have e : (l.map (·.2)).mergeSort (fun a b => !decide (a < b)) = l.map (·.2) := by
      refine List.Perm.eq_of_pairwise (le := fun a b => b ≤ a) (fun a b _ _ h1 h2 => by omega) ?_ hpw2 (List.mergeSort_perm _ _)
      have := List.pairwise_mergeSort (le := fun a b : Int => !decide (a < b)) (fun a b c h1 h2 => by simp only [Bool.not_eq_true', decide_eq_false_iff_not] at *; omega) (fun a b => by
        simp only [Bool.or_eq_true, Bool.not_eq_true', decide_eq_false_iff_not]; omega) (l.map (·.2))
      exact this.imp fun h => by simp only [Bool.not_eq_true', decide_eq_false_iff_not] at h; omega
    rw [e] at this
    exact this
  have hpe : peq (.lst ((l.map (·.2)).map D.int)) (.lst ((l.map (·.2)).map D.int)) = some true := by
    have := eqv_int.lst.peq (by decide) (l.map (·.2)) (l.map (·.2))
    rw [decide_eq_true rfl] at this
    exact this
  have c4 : E cl 1 (.sortR lcB) (ev P got arcs o1 o2 gs os lap (some (eAs l)) none) τ = .ok (.lst ((l.map (·.2)).map D.int), τ) := by
    rw [E_sortR, hb]
    simp only [Out.bind_ok, hd_lst, hso, ofO_some]
  simp only [bd9, SL_cons, SL_nil, S_ite, E_band, EAnd_cons, EAnd_one, E_cmp, c1, c4, hb, E_con, Out.bind_ok, hd_int, cmp_gt, cmp_ne, hd_lst, hpe, ofO_some, Option.map_some, hd_blS, tru_blS]
  by_cases h1 : 1 < n
  · rw [decide_eq_true h1]; simp
  · rw [decide_eq_false h1]; simp
end M
set_option Elab.async false
set_option linter.all false
set_option maxRecDepth 100000
set_option maxHeartbeats 4000000
namespace M
open PySem
variable {T : Nat → Option Def}
def st8 : MStmt := .loop (.n 9) (.over (.call 50 (.cons (.var 0) (.cons (.var 6) (.cons (.con (.int 3)) .nil))))) bd8
def st9 : MStmt := .loop (.n 9) (.over (.call 50 (.cons (.var 0) (.cons (.var 7) (.cons (.con (.int 3)) .nil))))) bd9
theorem l8 (cl : Calls) (P got arcs o1 o2 gs os lap : Option D) (A : Line) {m : Nat} (hA : Arcs m A) (τ : Store) : ∀ (xs : List D) (o : Option D), (∀ y ∈ xs, ∃ l, y = eAs l ∧ Lot 1 A l) → ∃ o', forLoop none (loopF cl 1 (.n 9) bd8) xs (ev P got arcs o1 o2 gs os lap o none) τ = .nx (ev P got arcs o1 o2 gs os lap o' none) τ
  | [], o, _ => ⟨o, by simp⟩
  | x :: xs, o, h => by
    obtain ⟨l, rfl, hl⟩ := h x List.mem_cons_self
    have hb := b8 cl P got arcs o1 o2 gs os lap o l τ hl.2 (hA.srt.sublist hl.1) (fun p hp => (hA.val p (hl.1.subset hp)).2.1)
    obtain ⟨o', e⟩ := l8 cl P got arcs o1 o2 gs os lap A hA τ xs (some (eAs l)) fun y hy => h y (List.mem_cons_of_mem _ hy)
    exact ⟨o', by rw [forLoop_nx (w := none) hb trivial, e]⟩
theorem l9 (cl : Calls) (P got arcs o1 o2 gs os lap : Option D) (A : Line) (τ : Store) : ∀ (xs : List D) (o : Option D), (∀ y ∈ xs, ∃ l, y = eAs l ∧ Lot (-1) A l) → ∃ o', forLoop none (loopF cl 1 (.n 9) bd9) xs (ev P got arcs o1 o2 gs os lap o none) τ = .nx (ev P got arcs o1 o2 gs os lap o' none) τ
  | [], o, _ => ⟨o, by simp⟩
  | x :: xs, o, h => by
    obtain ⟨l, rfl, hl⟩ := h x List.mem_cons_self
    have hb := b9 cl P got arcs o1 o2 gs os lap o l τ hl.2
    obtain ⟨o', e⟩ := l9 cl P got arcs o1 o2 gs os lap A τ xs (some (eAs l)) fun y hy => h y (List.mem_cons_of_mem _ hy)
    exact ⟨o', by rw [forLoop_nx (w := none) hb trivial, e]⟩
theorem pick_lots (h : HR T) (k : Nat) (c : Nat) (t : List D) (way : Int) {m : Nat} (P : List (List Int)) (g : Good m P) (hm : m ≤ 12) (ht : TinOK c t) (hc : c + 100 ≤ 1000000) :
    ∃ (t' found : List D), M.call T (k + 8) 50 [.ref 0, gl way P, .int 3] [some t] = .ok (.lst found, [some t']) ∧ TinOK (c + 100) t' ∧ ∀ y ∈ found, ∃ l, y = eAs l ∧ Lot way (arcsOf P) l := by
  obtain ⟨t2, found, rest, e2, hp, ht2, _⟩ := s_pick h.toHL (k + 6) c t ((lots way (arcsOf P)).map eAs) 3 (by rw [List.length_map]; have := lots_small g hm way; omega) (fun y hy => by
    obtain ⟨p, _, rfl⟩ := List.mem_map.mp hy; exact nr_eAs p) ht hc (by omega)
  refine ⟨t2, found, e2, ht2, fun y hy => ?_⟩
  obtain ⟨l, hl, rfl⟩ := List.mem_map.mp (hp.mem_iff.mp (List.mem_append_left _ hy))
  exact ⟨l, rfl, (mem_lots _ _ _).mp hl⟩
theorem r8 (h : HR T) (k : Nat) (c : Nat) (t : List D) (got arcs o1 o2 os lap o : Option D) {m : Nat} (P : List (List Int)) (g : Good m P) (hm : m ≤ 12) (ht : TinOK c t) (hc : c + 100 ≤ 1000000) :
    ∃ (t' : List D) (o' : Option D), S (M.call T (k + 8)) 1 st8 (ev (some (eP P)) got arcs o1 o2 (some (gl 1 P)) os lap o none) [some t] = .nx (ev (some (eP P)) got arcs o1 o2 (some (gl 1 P)) os lap o' none) [some t'] ∧ TinOK (c + 100) t' := by
  obtain ⟨t', found, e1, ht', hf⟩ := pick_lots h k c t 1 P g hm ht hc
  obtain ⟨o', e2⟩ := l8 (M.call T (k + 8)) (some (eP P)) got arcs o1 o2 (some (gl 1 P)) os lap (arcsOf P) (arcs_ok g) [some t'] found o hf
  refine ⟨t', o', ?_, ht'⟩
  simp only [st8]
  simp [e1]
  exact e2
theorem r9 (h : HR T) (k : Nat) (c : Nat) (t : List D) (got arcs o1 o2 gs lap o : Option D) {m : Nat} (P : List (List Int)) (g : Good m P) (hm : m ≤ 12) (ht : TinOK c t) (hc : c + 100 ≤ 1000000) :
    ∃ (t' : List D) (o' : Option D), S (M.call T (k + 8)) 1 st9 (ev (some (eP P)) got arcs o1 o2 gs (some (gl (-1) P)) lap o none) [some t] = .nx (ev (some (eP P)) got arcs o1 o2 gs (some (gl (-1) P)) lap o' none) [some t'] ∧ TinOK (c + 100) t' := by
  obtain ⟨t', found, e1, ht', hf⟩ := pick_lots h k c t (-1) P g hm ht hc
  obtain ⟨o', e2⟩ := l9 (M.call T (k + 8)) (some (eP P)) got arcs o1 o2 gs (some (gl (-1) P)) lap (arcsOf P) [some t'] found o hf
  refine ⟨t', o', ?_, ht'⟩
  simp only [st9]
  simp [e1]
  exact e2
def lastB (A : Line) : D := if A = [] then eAs [(1, 2)] else eAs (A ++ [lastA A])
def bads (A : Line) : List D := [.non, .lst [], eAs [(1, 99)], .tup [.tup [.int 1]], .tup [.int 1, .int 2], eAs [(2, 1)], .tup [.tup [.bl true, .int 2]], .str "arcs", lastB A]
def st10 : MStmt := .asg (.n 10) (.lst (.cons (.con .non) (.cons (.lst .nil) (.cons (.tup (.cons (.tup (.cons (.con (.int 1)) (.cons (.con (.int 99)) .nil))) .nil)) (.cons (.tup (.cons (.tup (.cons (.con (.int 1)) .nil)) .nil)) (.cons (.tup (.cons (.con (.int 1)) (.cons (.con (.int 2)) .nil))) (.cons (.tup (.cons (.tup (.cons (.con (.int 2)) (.cons (.con (.int 1)) .nil))) .nil)) (.cons (.tup (.cons (.tup (.cons (.con (.bl true)) (.cons (.con (.int 2)) .nil))) .nil)) (.cons (.con (.str "arcs")) (.cons (.ite (.cmp .ne (.var 3) (.tup .nil)) (.bin .add (.var 3) (.slice (.var 3) (.some (.neg (.con (.int 1)))) .none)) (.tup (.cons (.tup (.cons (.con (.int 1)) (.cons (.con (.int 2)) .nil))) .nil))) .nil))))))))))
theorem slice_last {A : Line} (h : A ≠ []) : sliceF (some (-1)) none (eAs A) = some (eAs [lastA A]) := by
  obtain ⟨A', e⟩ := snoc_of h
  have hl : (A.map eA).length = A'.length + 1 := by rw [List.length_map]; conv => lhs; rw [e]; 
                                                    simp
  simp only [eAs, sliceF, cutD, hl]
  have h1 : HT.sIx (A'.length + 1) 0 (some (-1)) = A'.length := by
    unfold HT.sIx
    simp only
    rw [if_pos (by omega)]
    omega
  have h2 : HT.sIx (A'.length + 1) (A'.length + 1) none = A'.length + 1 := rfl
  rw [h1, h2]
  have h3 : (A.map eA).drop A'.length = [eA (lastA A)] := by
    conv => lhs; rw [e]
    rw [List.map_append, List.drop_left' (by simp)]; rfl
  rw [h3]
  simp
theorem r10 (cl : Calls) (t : List D) (P got o1 o2 gs os lap o : Option D) (A : Line) (hl : A.length ≤ 1000) :
    S cl 1 st10 (ev P got (some (eAs A)) o1 o2 gs os lap o none) [some t] = .nx (ev P got (some (eAs A)) o1 o2 gs os lap o (some (.lst (bads A)))) [some t] := by
  have hE : Eqv 2 eAs (tupP pA) := ord_A.toEqv.tup
  have hpe : peq (eAs A) (.tup []) = some (decide (A = [])) := hE.peq (by decide) A []
  simp only [st10, ev]
  by_cases h : A = []
  · simp [hpe, h, bads, lastB, eAs, eA]
    subst h
    have hpe' : peq (eAs []) (.tup []) = some true := hpe
    simp only [eAs, List.map_nil] at hpe'
    simp [hpe']
  · have hs := slice_last h
    have ha : binF .add (eAs A) (eAs [lastA A]) = some (eAs (A ++ [lastA A])) := add_eAs (by rw [List.length_singleton]; omega)
    simp [hpe, h, bads, lastB, hs, ha]
    simp [eAs, eA]
end M
set_option Elab.async false
set_option linter.all false
set_option maxRecDepth 100000
set_option maxHeartbeats 4000000
namespace M
open PySem
variable {T : Nat → Option Def}
theorem pw_of_asc : ∀ {l : List Int}, ascB l = true → l.Pairwise (· < ·)
  | [], _ => List.Pairwise.nil
  | [x], _ => by simp
  | x :: y :: r, h => by
    unfold ascB at h
    simp only [List.tail_cons, List.zip_cons_cons, List.all_cons, Bool.and_eq_true, decide_eq_true_eq] at h
    have ih : (y :: r).Pairwise (· < ·) := pw_of_asc (by unfold ascB; rw [List.tail_cons]; exact h.2)
    rw [List.pairwise_cons]
    refine ⟨fun z hz => ?_, ih⟩
    rcases List.mem_cons.mp hz with rfl | hz
    · exact h.1
    · rw [List.pairwise_cons] at ih
      have := ih.1 z hz
      omega
theorem bad_lot (h : HR T) (k : Nat) {m : Nat} (P : List (List Int)) (g : Good m P) (hm : m ≤ 12) (way : Int) (τ : Store) : ∀ d ∈ bads (arcsOf P), M.call T (k + 4) 70 [eP P, d, .int way] τ = .ok (.bl false, τ) := by
  intro d hd
  have hal := arcs12 g hm
  have fl : ∀ xs : List D, (∀ x ∈ xs, flat x = true ∧ flats x = true) → xs.all pairD = false → M.call T (k + 4) 70 [eP P, .tup xs, .int way] τ = .ok (.bl false, τ) := fun xs h1 h2 =>
    s_lot_no h.toHA k P _ way τ g (s_are_bad h.toHA k m xs τ h1 h2)
  have no : ∀ d : D, flat d = true → (∀ xs, d ≠ .tup xs) → M.call T (k + 4) 70 [eP P, d, .int way] τ = .ok (.bl false, τ) := fun d h1 h2 =>
    s_lot_no h.toHA k P d way τ g (s_are_no h.toHA (k + 2) m d τ h1 h2)
  have ar : ∀ as : Line, as.length ≤ 1000 → arcsInB (m : Int) as = false → M.call T (k + 4) 70 [eP P, eAs as, .int way] τ = .ok (.bl false, τ) := fun as h1 h2 => by
    refine s_lot_no h.toHA k P _ way τ g ?_
    rw [s_are h.toHA k m as τ h1, h2]
  unfold bads at hd
  simp only [List.mem_cons, List.not_mem_nil, or_false] at hd
  rcases hd with rfl | rfl | rfl | rfl | rfl | rfl | rfl | rfl | rfl
  · exact no _ rfl (fun xs e => by cases e)
  · exact no _ rfl (fun xs e => by cases e)
  · refine ar _ (by show 1 ≤ 1000; decide) ?_
    unfold arcsInB
    have : ¬ ((99 : Int) ≤ (m : Int)) := by omega
    simp [this]
  · refine fl _ (fun x hx => ?_) ?_
    · rw [List.mem_singleton] at hx; subst hx; exact ⟨rfl, rfl⟩
    · rfl
  · refine fl _ (fun x hx => ?_) ?_
    · simp only [List.mem_cons, List.not_mem_nil, or_false] at hx
      rcases hx with rfl | rfl <;> exact ⟨rfl, rfl⟩
    · rfl
  · refine ar _ (by show 1 ≤ 1000; decide) ?_
    unfold arcsInB
    simp
  · refine fl _ (fun x hx => ?_) ?_
    · rw [List.mem_singleton] at hx; subst hx; exact ⟨rfl, rfl⟩
    · rfl
  · exact no _ rfl (fun xs e => by cases e)
  · unfold lastB
    by_cases e : arcsOf P = []
    · rw [if_pos e]
      rw [s_lot h.toHA k P [(1, 2)] way τ g (by omega) (by show 1 ≤ 1000; decide)]
      have : lotB P m [(1, 2)] way = false := by
        unfold lotB
        rw [e]
        simp
      rw [this]
    · rw [if_neg e]
      refine ar _ (by rw [List.length_append, List.length_singleton]; omega) ?_
      have : ascB ((arcsOf P ++ [lastA (arcsOf P)]).map (·.1)) = false := by
        cases ha : ascB ((arcsOf P ++ [lastA (arcsOf P)]).map (·.1)) with
        | false => rfl
        | true =>
          have hp := pw_of_asc ha
          rw [List.map_append, List.pairwise_append] at hp
          have := hp.2.2 _ (List.mem_map_of_mem (last_mem e)) (lastA (arcsOf P)).1 (by simp)
          omega
      unfold arcsInB
      rw [this]
      simp
def st11 : MStmt := .ret (.band (.cons (.call 13 (.cons (.bin .add (.lc (.call 75 (.cons (.var 1) (.cons (.var 9) .nil))) (.n 9) (.over (.var 10)) .none [("own", 9)]) (.lc (.call 76 (.cons (.var 1) (.cons (.var 9) .nil))) (.n 9) (.over (.var 10)) .none [("own", 9)])) (.cons (.rep (.lst (.cons (.con (.bl false)) .nil)) 18) .nil))) (.cons (.cmp .is_ (.call 75 (.cons (.var 1) (.cons (.tup .nil) .nil))) (.con (.bl true))) .nil)))
def fal (n : Nat) : D := .lst (List.replicate n (.bl false))
theorem r11 (h : HR T) (k : Nat) (t : List D) (got arcs o1 o2 gs os lap o : Option D) {m : Nat} (P : List (List Int)) (g : Good m P) (hm : m ≤ 12) :
    S (M.call T (k + 8)) 1 st11 (ev (some (eP P)) got arcs o1 o2 gs os lap o (some (.lst (bads (arcsOf P))))) [some t] = .rt (.bl true) [some t] := by
  have e1 : ∀ d ∈ bads (arcsOf P), M.call T (k + 8) 75 [eP P, d] [some t] = .ok (.bl false, [some t]) := fun d hd => s_all_c h.toHA (k + 3) P d false [some t] g (by omega) (bad_lot h (k + 3) P g hm 1 [some t] d hd)
  have e2 : ∀ d ∈ bads (arcsOf P), M.call T (k + 8) 76 [eP P, d] [some t] = .ok (.bl false, [some t]) := fun d hd => s_all_n h.toHA (k + 3) P d false [some t] g (by omega) (bad_lot h (k + 3) P g hm (-1) [some t] d hd)
  have e3 : M.call T (k + 8) 75 [eP P, .tup []] [some t] = .ok (.bl true, [some t]) := by
    refine s_all_c h.toHA (k + 3) P _ true [some t] g (by omega) ?_
    have := s_lot h.toHA (k + 3) P [] 1 [some t] g (by omega) (by show 0 ≤ 1000; decide)
    rw [lot_eq g (List.nil_sublist _) (.inl rfl), decide_eq_true ((mem_lots _ _ _).mpr ⟨List.nil_sublist _, by simp⟩)] at this
    exact this
  have hs : SameOK T 2 (fal 18) := same_lst h.h13 (fun y hy => by rw [(List.mem_replicate.mp hy).2]; exact same_bl h.h13 _) (by rw [List.length_replicate]; decide)
  have e4 : M.call T (k + 8) 13 [fal 18, fal 18] [some t] = _ := hs (k + 6) [some t]
  have hb : (bads (arcsOf P)).map (fun _ => D.bl false) = List.replicate 9 (.bl false) := rfl
  have hadd : binF .add (fal 9) (fal 9) = some (fal 18) := rfl
  have a1 : E (M.call T (k + 8)) 1 (.lc (.call 75 (.cons (.var 1) (.cons (.var 9) .nil))) (.n 9) (.over (.var 10)) .none [("own", 9)]) (ev (some (eP P)) got arcs o1 o2 gs os lap o (some (.lst (bads (arcsOf P))))) [some t] = .ok (fal 9, [some t]) := by
    simp only [ev]
    simp
    rw [lcOut_mapD (F := fun _ => D.bl false)]
    · rw [hb]; rfl
    · intro d hd
      simp [lcTurn, wipeE, setTgt, e1 d hd]
  have a2 : E (M.call T (k + 8)) 1 (.lc (.call 76 (.cons (.var 1) (.cons (.var 9) .nil))) (.n 9) (.over (.var 10)) .none [("own", 9)]) (ev (some (eP P)) got arcs o1 o2 gs os lap o (some (.lst (bads (arcsOf P))))) [some t] = .ok (fal 9, [some t]) := by
    simp only [ev]
    simp
    rw [lcOut_mapD (F := fun _ => D.bl false)]
    · rw [hb]; rfl
    · intro d hd
      simp [lcTurn, wipeE, setTgt, e2 d hd]
  have a3 : E (M.call T (k + 8)) 1 (.rep (.lst (.cons (.con (.bl false)) .nil)) 18) (ev (some (eP P)) got arcs o1 o2 gs os lap o (some (.lst (bads (arcsOf P))))) [some t] = .ok (fal 18, [some t]) := by
    simp only [E_rep, E_lst, EA_cons, E_con, EA_nil, Out.bind_ok]
    rw [if_pos (by show 1 ≤ 1000000; decide)]
    simp only [Out.bind_ok]
    rw [if_pos ⟨by decide, by show 1 * 18 ≤ 1000000; decide⟩]
    rfl
  have hf : ∀ n τ, hd τ (fal n) = fal n := fun _ _ => rfl
  have h1 : (ev (some (eP P)) got arcs o1 o2 gs os lap o (some (.lst (bads (arcsOf P)))))[1]? = some (some (eP P)) := rfl
  simp only [st11, S_ret, E_band, EAnd_cons, EAnd_one, E_call, EA_cons, EA_nil, E_bin, a1, a2, a3, Out.bind_ok, hf, hadd, ofO_some, e4, hd_blS, tru_blS, if_true, E_cmp, E_var, h1, E_tup, E_con]
  rw [if_pos (by show 0 ≤ 1000000; decide)]
  simp only [Out.bind_ok, e3, hd_blS, cmp_isbl, ofO_some]
  rfl
theorem s_right (h : HR T) (k : Nat) (c : Nat) (t : List D) (ht : TinOK c t) (hc : c + 2000 ≤ 1000000) :
    ∃ t' : List D, M.call T (k + 9) 84 [.ref 0] [some t] = .ok (.bl true, [some t']) ∧ TinOK (c + 2000) t' := by
  obtain ⟨t1, m, P, e1, hm, g, ht1⟩ := r1 h k c t ht (by omega)
  have e2 := r2 h k t1 P g hm
  have e3 := r3 h k t1 P g hm
  have e4 := r4 h k t1 (gotD (arcsOf P) m) P g hm
  obtain ⟨o1, o2, e5⟩ := r5 h k t1 (some (eP P)) (some (gotD (arcsOf P) m)) P g hm
  have e6 := r6 h k t1 (some (gotD (arcsOf P) m)) (some (eAs (arcsOf P))) o1 o2 P g hm
  obtain ⟨t2, lap, own, e7, ht2⟩ := r7 h k (c + 300) t1 (some (gotD (arcsOf P) m)) o1 o2 P g hm ht1 (by omega)
  obtain ⟨t3, own2, e8, ht3⟩ := r8 h k (c + 300 + 800) t2 (some (gotD (arcsOf P) m)) (some (eAs (arcsOf P))) o1 o2 (some (gl (-1) P)) lap own P g hm ht2 (by omega)
  obtain ⟨t4, own3, e9, ht4⟩ := r9 h k (c + 300 + 800 + 100) t3 (some (gotD (arcsOf P) m)) (some (eAs (arcsOf P))) o1 o2 (some (gl 1 P)) lap own2 P g hm ht3 (by omega)
  have e10 := r10 (M.call T (k + 8)) t4 (some (eP P)) (some (gotD (arcsOf P) m)) o1 o2 (some (gl 1 P)) (some (gl (-1) P)) lap own3 (arcsOf P) (by have := arcs12 g hm; omega)
  have e11 := r11 h k t4 (some (gotD (arcsOf P) m)) (some (eAs (arcsOf P))) o1 o2 (some (gl 1 P)) (some (gl (-1) P)) lap own3 P g hm
  refine ⟨t4, ?_, ht4.mono (by omega)⟩
  rw [call_succ h.h84]
  refine run_st rfl rfl ?_ rfl
  have hb : D__law_right_3.body = [st1, st2, st3, st4, st5, st6, st7, st8, st9, st10, st11] := rfl
  have hn : startE D__law_right_3.N [.ref 0] = ev none none none none none none none none none none := rfl
  rw [hb, hn]
  show SL (M.call T (k + 8)) 1 _ _ _ = _
  rw [SL_cons, e1, Res.seq_nx, SL_cons, e2, Res.seq_nx, SL_cons, e3, Res.seq_nx, SL_cons, e4, Res.seq_nx, SL_cons, e5, Res.seq_nx, SL_cons, e6, Res.seq_nx, SL_cons, e7, Res.seq_nx, SL_cons, e8, Res.seq_nx, SL_cons, e9, Res.seq_nx, SL_cons, e10, Res.seq_nx, SL_cons, e11, Res.seq_rt]
end M
set_option Elab.async false
set_option linter.all false
set_option maxRecDepth 100000
set_option maxHeartbeats 4000000
namespace M
open PySem
variable {T : Nat → Option Def}
/-! ### the box -/
theorem pow18 : binF .pow (.int 10) (.int 18) = some (.int 1000000000000000000) := by
  simp only [binF]
  rw [if_pos ⟨by decide, by decide, by decide⟩]
  rfl
theorem s_box (h : HR T) (k : Nat) (x : Int) (τ : Store) : ∃ a b : Int, 0 ≤ a ∧ 0 ≤ b ∧ M.call T (k + 1) 77 [.lst [.int x], .int 0] τ = .ok (.lst [.int a, .int b, .int 0], τ) := by
  have hm : ∀ y : Int, binF .mod (.int y) (.int 2305843009213693951) = some (.int (y.fmod 2305843009213693951)) := fun y => mod_ok (by omega)
  have hmul : binF .mul (.int 39373) (.int 0) = some (.int (39373 * 0)) := mul_l (small_of (by omega) (by omega))
  have hab : ∀ y : Int, bltF .abs (.int y) = some (.int (if y < 0 then -y else y)) := fun y => rfl
  have hsm : ∀ (y : Int) (b : Bool), binF .mul (.int y) (.int (if b = true then 1 else 0)) = some (.int (y * (if b = true then 1 else 0))) := fun y b => by
    cases b
    · exact mul_r (small_of (by simp) (by simp))
    · exact mul_r (small_of (by simp) (by simp))
  have hf : 0 ≤ x.fmod 2305843009213693951 := Int.fmod_nonneg_of_pos x (by omega)
  generalize hax : (if x < 0 then -x else x) = ax at *
  have hax0 : 0 ≤ ax := by rw [← hax]; split <;> omega
  refine ⟨ax * (if decide (1000000000000000000 ≤ ax) = true then 1 else 0), x.fmod 2305843009213693951 + 39373 * 0 + 26306002, ?_, by omega, ?_⟩
  · split <;> omega
  · rw [call_succ h.h77]
    refine run_val rfl ?_ rfl
    have hab' := hab x
    rw [hax] at hab'
    have h0 := hsm ax (decide (1000000000000000000 ≤ ax))
    simp only [D__law_box_3, startE]
    simp [hab', pow18, hm, hmul]
    simp at h0
    rw [h0]
    simp
def bdC : List MStmt := [.asg (.n 5) (.bin .mod (.blt .int (.var 3)) (.var 1)), .setidx (.var 2) (.var 5) (.bin .add (.idx (.var 2) (.var 5)) (.bin .mul (.var 4) (.bin .add (.var 3) (.con (.int 2)))))]
theorem cells_loop (cl : Calls) (τ : Store) (r0 : D) : ∀ (zs : List (Int × Int)) (x : Int) (a b c : Option D), (∀ z ∈ zs, 0 ≤ z.1 ∧ z.1 ≤ 1000) →
    ∃ (x' : Int) (a' b' c' : Option D), forLoop none (loopF cl τ.length (.t [3, 4]) bdC) (zs.map fun z => .tup [.int z.1, .int z.2]) [some r0, some (.int 1), some (.ref τ.length), a, b, c] (τ ++ [some [.int x]]) = .nx [some r0, some (.int 1), some (.ref τ.length), a', b', c'] (τ ++ [some [.int x']])
  | [], x, a, b, c, _ => ⟨x, a, b, c, by simp⟩
  | z :: zs, x, a, b, c, h => by
    obtain ⟨h1, h2⟩ := h z List.mem_cons_self
    have hh : hd (τ ++ [some [.int x]]) (.ref τ.length) = .lst [.int x] := hd_ref (get_app τ _)
    have hm : binF .mod (.int z.1) (.int 1) = some (.int 0) := by
      rw [mod_ok (by omega), Int.fmod_one]
    have hmul : binF .mul (.int z.2) (.int (z.1 + 2)) = some (.int (z.2 * (z.1 + 2))) := mul_r (small_of (by omega) (by omega))
    have hset : ∀ i : Int, setIdx τ.length (.ref τ.length) (.int 0) (.int i) (τ ++ [some [.int x]]) = some (τ ++ [some [.int i]]) := fun i => by
      have hcg : cellGet (τ ++ [some [D.int x]]) τ.length = some [.int x] := by simp [cellGet]
      simp only [setIdx, hcg, Option.bind_some]
      simp [L2.ixN, mayPut]
    have hst : loopF cl τ.length (.t [3, 4]) bdC (.tup [.int z.1, .int z.2]) [some r0, some (.int 1), some (.ref τ.length), a, b, c] (τ ++ [some [.int x]]) = .nx [some r0, some (.int 1), some (.ref τ.length), some (.int z.1), some (.int z.2), some (.int 0)] (τ ++ [some [.int (x + z.2 * (z.1 + 2))]]) := by
      rw [loopF_t (ρ' := [some r0, some (.int 1), some (.ref τ.length), some (.int z.1), some (.int z.2), c]) (h := rfl)]
      simp only [bdC]
      simp [hm, hh, hmul, hset]
    obtain ⟨x', a', b', c', e⟩ := cells_loop cl τ r0 zs (x + z.2 * (z.1 + 2)) _ _ _ fun y hy => h y (List.mem_cons_of_mem _ hy)
    exact ⟨x', a', b', c', by rw [List.map_cons, forLoop_nx (w := none) hst trivial, e]⟩
theorem s_cells (h : HR T) (k : Nat) (ns : List Int) (τ : Store) (hl : ns.length ≤ 63) : ∃ x : Int, M.call T (k + 1) 10 [.lst (ns.map .int), .int 1] τ = .ok (.lst [.int x], τ) := by
  have hcut : ∀ lo hi, ∃ ys : List Int, cutD (ns.map D.int) lo hi = ys.map D.int ∧ ys.length ≤ 63 := fun lo hi => by
    refine ⟨(ns.drop (HT.sIx ns.length 0 lo)).take (HT.sIx ns.length ns.length hi - HT.sIx ns.length 0 lo), ?_, ?_⟩
    · unfold cutD
      rw [List.length_map, List.map_take, List.map_drop]
    · rw [List.length_take, List.length_drop]; omega
  obtain ⟨ys, hy, hyl⟩ := hcut (some 1) (some 63)
  have hs1 : ∃ x0 : Int, (match cutD (ns.map D.int) none (some 1) with | [] => [D.int 0] | l => l) = [.int x0] := by
    cases ns with
    | nil => exact ⟨0, rfl⟩
    | cons a r =>
      refine ⟨a, ?_⟩
      have : cutD ((a :: r).map D.int) none (some 1) = [.int a] := by
        unfold cutD HT.sIx
        simp
      rw [this]
  obtain ⟨x0, hs1⟩ := hs1
  let zs : List (Int × Int) := (ys.zipIdx 0).map fun x => ((x.2 : Int), x.1)
  have hz : ∀ z ∈ zs, 0 ≤ z.1 ∧ z.1 ≤ 1000 := fun z hz => by
    obtain ⟨x, hx, rfl⟩ := List.mem_map.mp hz
    have := List.mem_zipIdx hx
    have h2 := this.2.1
    simp only
    omega
  have hen : enumD 0 (ys.map D.int) = zs.map fun z => .tup [.int z.1, .int z.2] := by
    rw [enum_map, List.map_map]; rfl
  obtain ⟨x', a', b', c', e⟩ := cells_loop (M.call T k) τ (.lst (ns.map .int)) zs x0 none none none hz
  refine ⟨x', ?_⟩
  rw [call_succ h.h10]
  refine run_cell rfl ?_ rfl
  have hsl1 : sliceF none (some 1) (.lst (ns.map .int)) = some (.lst (cutD (ns.map .int) none (some 1))) := rfl
  have hsl2 : sliceF (some 1) (some 63) (.lst (ns.map .int)) = some (.lst (ys.map .int)) := by
    show some (D.lst (cutD (ns.map .int) (some 1) (some 63))) = _
    rw [hy]
  have hbor : E (M.call T k) τ.length (.alloc (.bor (.cons (.blt .list (.slice (.var 0) .none (.some (.var 1)))) (.cons (.lst (.cons (.con (.int 0)) .nil)) .nil)))) (startE D__law_cells.N [.lst (ns.map .int), .int 1]) τ = .ok (.ref τ.length, τ ++ [some [.int x0]]) := by
    simp only [D__law_cells, startE]
    simp [hsl1]
    cases hc : cutD (ns.map D.int) none (some 1) with
    | nil => rw [hc] at hs1; simp at hs1; simp [hs1]
    | cons d r => rw [hc] at hs1; simp at hs1; simp [hs1]
  have hb : D__law_cells.body = [.asg (.n 2) (.alloc (.bor (.cons (.blt .list (.slice (.var 0) .none (.some (.var 1)))) (.cons (.lst (.cons (.con (.int 0)) .nil)) .nil)))), .loop (.t [3, 4]) (.enum (.slice (.var 0) (.some (.var 1)) (.some (.con (.int 63))))) bdC, .retv 2] := rfl
  rw [hb, SL_cons, S_asg, hbor]
  simp only [D__law_cells, startE]
  simp [hsl2, hen]
  rw [e]
  simp
end M
set_option Elab.async false
set_option linter.all false
set_option maxRecDepth 100000
set_option maxHeartbeats 4000000
namespace M
open PySem
variable {T : Nat → Option Def}
theorem arcs_raw {m : Nat} {P : List (List Int)} (g : Good m P) (hr : (rawArcs P).Pairwise fun p q => p.1 < q.1) : arcsOf P = rawArcs P :=
  List.Perm.eq_of_pairwise (le := fun p q => p.1 < q.1) (fun a b _ _ h1 h2 => by omega) (arcs_ok g).srt hr (List.mergeSort_perm _ _)
def P5 : List (List Int) := [[1, 4], [2, 3, 5]]
def Pc : List (List Int) := [[1, 4], [2, 5], [3, 6]]
def Pn : List (List Int) := [[1, 6], [2, 5], [3, 4]]
def P3 : List (List Int) := [[1, 2, 3]]
theorem perm_of {l r : List Int} (h : l.mergeSort (fun a b => decide (a ≤ b)) = r.mergeSort (fun a b => decide (a ≤ b))) : l.Perm r :=
  (List.mergeSort_perm l _).symm.trans (h ▸ List.mergeSort_perm r _)
theorem g5 : Good 5 P5 := ⟨by decide, by decide, by decide, by decide⟩
theorem gc : Good 6 Pc := ⟨by decide, by decide, by decide, by decide⟩
theorem gn : Good 6 Pn := ⟨by decide, by decide, by decide, by decide⟩
theorem g3 : Good 3 P3 := ⟨by decide, by decide, by decide, by decide⟩
theorem a5 : arcsOf P5 = [(1, 4), (2, 3), (3, 5)] := arcs_raw g5 (by decide)
theorem ac : arcsOf Pc = [(1, 4), (2, 5), (3, 6)] := arcs_raw gc (by decide)
theorem an : arcsOf Pn = [(1, 6), (2, 5), (3, 4)] := arcs_raw gn (by decide)
theorem a3 : arcsOf P3 = [(1, 2), (2, 3)] := arcs_raw g3 (by decide)
theorem a0 : arcsOf [] = [] := arcs_raw Good.zero (by decide)
def dueD : D := .lst [.int 1, .int 1, eAs [(1, 4), (3, 5)], eAs [(1, 4), (2, 3)], eAs [(1, 4), (2, 5), (3, 6)], eAs [(1, 6), (2, 5), (3, 4)], eAs [], eAs [(1, 2)]]
theorem due_same (h13 : T 13 = some D__law_same) : SameOK T 4 dueD := same_lst h13 (fun x hx => by
  simp only [List.mem_cons, List.not_mem_nil, or_false] at hx
  rcases hx with rfl | rfl | rfl | rfl | rfl | rfl | rfl | rfl
  · exact (same_int h13 _).mono (by decide)
  · exact (same_int h13 _).mono (by decide)
  all_goals exact same_eAs h13 _ (by decide)) (by show 8 ≤ 1000000; decide)
theorem m5c : mostF [(1, 4), (2, 3), (3, 5)] 5 1 = [(1, 4), (3, 5)] := by decide +kernel
theorem m5n : mostF [(1, 4), (2, 3), (3, 5)] 5 (-1) = [(1, 4), (2, 3)] := by decide +kernel
theorem mcc : mostF [(1, 4), (2, 5), (3, 6)] 6 1 = [(1, 4), (2, 5), (3, 6)] := by decide +kernel
theorem mnn : mostF [(1, 6), (2, 5), (3, 4)] 6 (-1) = [(1, 6), (2, 5), (3, 4)] := by decide +kernel
theorem m0 : mostF [] 0 1 = [] := by decide +kernel
theorem m3 : mostF [(1, 2), (2, 3)] 3 (-1) = [(1, 2)] := by decide +kernel
theorem n5c : ((pairsL [((1 : Int), (4 : Int)), (2, 3), (3, 5)]).countP fun x => doB 1 x.1 x.2) = 1 := by decide +kernel
theorem n5n : ((pairsL [((1 : Int), (4 : Int)), (2, 3), (3, 5)]).countP fun x => doB (-1) x.1 x.2) = 1 := by decide +kernel
theorem s_law (h : HR T) (k : Nat) (ns : List Int) (hl : ns.length ≤ 63) : M.call T (k + 10) 85 [.lst (ns.map .int)] [] = .ok (.bl true, []) := by
  obtain ⟨x, e1⟩ := s_cells h (k + 8) ns [] hl
  obtain ⟨a, b, ha, hb, e2⟩ := s_box h (k + 8) x []
  have e1 : M.call T (k + 9) 10 [.lst (ns.map .int), .int 1] [] = .ok (.lst [.int x], []) := e1
  have e2 : M.call T (k + 9) 77 [.lst [.int x], .int 0] [] = .ok (.lst [.int a, .int b, .int 0], []) := e2
  obtain ⟨t1, e3, h1⟩ := s_right h k 0 [.int a, .int b, .int 0] ⟨a, b, 0, rfl, ha, hb, Int.le_refl _, Int.le_refl _⟩ (by omega)
  obtain ⟨t2, e4, h2⟩ := s_right h k 2000 t1 (h1.mono (by omega)) (by omega)
  obtain ⟨t3, e5, h3⟩ := s_right h k 4000 t2 (h2.mono (by omega)) (by omega)
  have c1 := s_crossings h.toHA (k + 4) P5 [some t3] g5 (by decide)
  have c2 := s_nestings h.toHA (k + 4) P5 [some t3] g5 (by decide)
  have c3 := s_most_c h.toHA (k + 4) P5 [some t3] g5 (by decide)
  have c4 := s_most_n h.toHA (k + 4) P5 [some t3] g5 (by decide)
  have c5 := s_most_c h.toHA (k + 4) Pc [some t3] gc (by decide)
  have c6 := s_most_n h.toHA (k + 4) Pn [some t3] gn (by decide)
  have c7 := s_most_c h.toHA (k + 4) [] [some t3] Good.zero (by decide)
  have c8 := s_most_n h.toHA (k + 4) P3 [some t3] g3 (by decide)
  rw [a5] at c1 c2 c3 c4
  rw [ac] at c5
  rw [an] at c6
  rw [a0] at c7
  rw [a3] at c8
  rw [n5c] at c1
  rw [n5n] at c2
  rw [m5c] at c3
  rw [m5n] at c4
  rw [mcc] at c5
  rw [mnn] at c6
  rw [m0] at c7
  rw [m3] at c8
  have e6 : M.call T (k + 9) 13 [dueD, dueD] [some t3] = _ := due_same h.h13 (k + 5) [some t3]
  have hr : rOk1 3 := rOk1_of (by omega) (by omega)
  have hi : intRange 0 3 = [.int 0, .int 1, .int 2] := rfl
  have lc : E (M.call T (k + 9)) 0 (.lc (.call 84 (.cons (.var 1) .nil)) (.n 4) (.range1 (.con (.int 3))) .none [("lap", 4)]) [some (.lst (ns.map .int)), some (.ref 0), none, none, none] [some [.int a, .int b, .int 0]] = .ok (.lst [.bl true, .bl true, .bl true], [some t3]) := by
    simp [rIt1_ok hr, hi, lcOut, lcLoop, lcTurn, wipeE, e3, e4, e5]
  have hall : bltF .all (.lst [.bl true, .bl true, .bl true]) = some (.bl true) := rfl
  rw [call_succ h.h85]
  have main : SL (M.call T (k + 9)) 0 D_law_3.body (startE D_law_3.N [.lst (ns.map .int)]) [] = .rt (.bl true) [some t3] := by
    have s1 : S (M.call T (k + 9)) 0 (.asg (.n 1) (.alloc (.call 77 (.cons (.call 10 (.cons (.var 0) (.cons (.con (.int 1)) .nil))) (.cons (.con (.int 0)) .nil))))) [some (.lst (ns.map .int)), none, none, none, none] [] = .nx [some (.lst (ns.map .int)), some (.ref 0), none, none, none] [some [.int a, .int b, .int 0]] := by
      simp [e1, e2]
    have s2 : S (M.call T (k + 9)) 0 (.ite (.bnot (.blt .all (.lc (.call 84 (.cons (.var 1) .nil)) (.n 4) (.range1 (.con (.int 3))) .none [("lap", 4)]))) [.ret (.con (.bl false))] []) [some (.lst (ns.map .int)), some (.ref 0), none, none, none] [some [.int a, .int b, .int 0]] = .nx [some (.lst (ns.map .int)), some (.ref 0), none, none, none] [some t3] := by
      rw [S_ite, E_bnot, E_blt, lc]
      simp [hall]
    have p5 : eP P5 = .tup [.tup [.int 1, .int 4], .tup [.int 2, .int 3, .int 5]] := rfl
    have pc : eP Pc = .tup [.tup [.int 1, .int 4], .tup [.int 2, .int 5], .tup [.int 3, .int 6]] := rfl
    have pn : eP Pn = .tup [.tup [.int 1, .int 6], .tup [.int 2, .int 5], .tup [.int 3, .int 4]] := rfl
    have p3 : eP P3 = .tup [.tup [.int 1, .int 2, .int 3]] := rfl
    have p0 : eP [] = .tup [] := rfl
    rw [p5] at c1 c2 c3 c4
    rw [pc] at c5
    rw [pn] at c6
    rw [p0] at c7
    rw [p3] at c8
    simp only [D_law_3, startE, List.map_cons, List.map_nil, List.length_cons, List.length_nil, List.replicate, List.cons_append, List.nil_append]
    rw [SL_cons, s1, Res.seq_nx, SL_cons, s2, Res.seq_nx]
    simp [c1, c2, c3, c4, c5, c6, c7, c8]
    simp only [dueD, eAs, eA, List.map_cons, List.map_nil] at e6 ⊢
    simp [e6]
  unfold runDef
  rw [if_pos (by rfl)]
  show (match SL (M.call T (k + 9)) 0 D_law_3.body (startE D_law_3.N [.lst (ns.map .int)]) [] with | .rt d τ' => _ | .nx _ τ' => _ | .exc c p _ τ' => _ | _ => _) = _
  rw [main]
  rfl
end M
set_option Elab.async false
set_option linter.all false
set_option maxRecDepth 100000
set_option maxHeartbeats 0
namespace M
open PySem PySem.Spec PyProof.Rows L2
abbrev Row_ : PySem.W.OpenRow := PySem.W.OpenLaw.row PySem.Challenge.rw_arcscrossed_k02_main_crossings_and_nesti
abbrev hk : PySem.W.Hook := He.hookX 4 fa fn [] [] noLst
def ob (s : PySem.W.SharedT) : He.AlX := He.obsX 4 fa fn [] [] noLst (HandSHeadRun.getT s)
theorem ob_eq (s : PySem.W.SharedT) : ob s = hk.obs s.abs := He.obsX_eq (HandSHeadRun.getT_eq s)
theorem run (w : World) : HandSHeadRun.RunEq Row_ (PySem.W.view Row_.prog [52]) hk ob 4000 loose w := by
  intro os
  kernel_rfl
end M
open PySem PySem.W PySem.Calls PyProof.Rows
theorem M.holds_of (hcall : ∀ ns : List Int, ns.length ≤ 63 → M.call M.Tb 60 85 [.lst (ns.map .int)] [] = .ok (.bl true, [])) : PySem.Challenge.rw_arcscrossed_k02_main_crossings_and_nesti.Holds := by
  w_on; o_law
  refine HandSHeadRun.head_any (r := OpenLaw.row PySem.Challenge.rw_arcscrossed_k02_main_crossings_and_nesti) (q := view (OpenLaw.row PySem.Challenge.rw_arcscrossed_k02_main_crossings_and_nesti).prog [52]) (H := M.hk) (ob := M.ob) (M := 4000) (loose := M.loose) (d := HandSHeadRun.topDef (OpenLaw.row PySem.Challenge.rw_arcscrossed_k02_main_crossings_and_nesti).prog 52) (kwd := []) M.ob_eq
    (by kernel_rfl) (fun s => by kernel_rfl) M.run (by kernel_rfl) (by kernel_rfl) (by kernel_rfl) (by rfl) (by first | assumption | decide +kernel) (by decide +kernel) ⟨rfl, rfl, rfl, rfl, rfl, by decide +kernel⟩ ?hw ?hc
  case hw => w_witness2
  case hc =>
    refine L2.walk_ofE (l := PySem.Challenge.rw_arcscrossed_k02_main_crossings_and_nesti) (n := 63) (k := 60) (x := "script") (CX := M.CXw (PySem.Challenge.rw_arcscrossed_k02_main_crossings_and_nesti).prog) rfl (by decide) (by kernel_rfl) ⟨rfl, by decide, by decide⟩ ?F ?hx
    case hx =>
      intro H s e s' h
      obtain ⟨w, a, B, H', cls, d, _, _, _, _, _, _, _, h⟩ := h
      exact h
    case F =>
      intro w mg fa' h Y Gn hmg0
      obtain ⟨K, KX, cx⟩ := Y
      have hmg : mg ("law" : PySem.Str) = some (.ref fa') := by
        have e : (HandSHeadRun.topDef (OpenLaw.row PySem.Challenge.rw_arcscrossed_k02_main_crossings_and_nesti).prog 52).name = ("law" : PySem.Str) := by kernel_rfl
        rw [← e]
        exact hmg0
      obtain ⟨fd, F⟩ := (M.saysD_of cx).def_ 43 (d := M.d_law) rfl
      have e := hmg.symm.trans (He.glo_ok KX Gn ((M.saysD_of cx).fact 43 (f := .glo "law") rfl))
      cases e
      exact M.law_F (f := 85) (d := M.D_law_3) (T := M.Tb) (k := 59) cx.more KX rfl rfl rfl (M.place_ok KX Gn (M.saysD_of cx)) (M.dok_all KX Gn (M.saysD_of cx)) F ⟨rfl, rfl, rfl, by decide +kernel, rfl, by decide +kernel, by decide +kernel⟩ (by decide) M.chk_law (L2.FunD.bindsA F fun _ _ _ _ _ _ us hl => match us, hl with | [_], _ => rfl) hcall
theorem M.hr : M.HR M.Tb := { h21 := rfl, h24 := rfl, h25 := rfl, h26 := rfl, h27 := rfl, h28 := rfl, h29 := rfl, h30 := rfl, h31 := rfl, h32 := rfl, h34 := rfl, h40 := rfl, h63 := rfl, h64 := rfl, h65 := rfl, h66 := rfl, h67 := rfl, h68 := rfl, h69 := rfl, h70 := rfl, h71 := rfl, h72 := rfl, h73 := rfl, h74 := rfl, h75 := rfl, h76 := rfl, h9 := rfl, h11 := rfl, h13 := rfl, h50 := rfl, h51 := rfl, h54 := rfl, h55 := rfl, h57 := rfl, h78 := rfl, h79 := rfl, h80 := rfl, h81 := rfl, h82 := rfl, h83 := rfl, h77 := rfl, h10 := rfl, h84 := rfl, h85 := rfl }
theorem PySem.Challenge.cw_arcscrossed_k02_main_crossings_and_nesti_holds : PySem.Challenge.rw_arcscrossed_k02_main_crossings_and_nesti.Holds := by
  exact M.holds_of fun ns h => M.s_law M.hr 50 ns h
